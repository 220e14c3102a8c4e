/-
What is taken, and freed, leaves a map as it was, if it was free; else it is free then: the law, walked.
-/
import Derived.Test.YtjejnlfbonpfaaaBit3
namespace Go.Proofs.Ytjejnlfbonpfaaa
set_option linter.unusedVariables false
set_option linter.unusedSimpArgs false
open Eng
attribute [local irreducible] Eng.Hold Eng.Z Eng.S bm rm hasB tb takeB firstV countV rfirst rcount Eng.old Eng.cells Eng.own
theorem cmp26 : Cmp Try.prog 26 (List.replicate 64 (.int .u8)) := ⟨by kernel_rfl, .inr ⟨_, rfl⟩, by kernel_rfl⟩
theorem typed_arr (k : CK) (f : Nat → Value) (hf : ∀ i, Typed [k] [f i]) : ∀ n, Typed (List.replicate n k) (arr n f)
  | 0 => trivial
  | n + 1 => by
    rw [List.replicate_succ', show arr (n + 1) f = arr n f ++ [f n] by simp [arr, List.range_succ]]
    exact (typed_arr k f hf n).append (hf n)
theorem bm_typed (r : Nat → Int) : Typed (List.replicate 64 (.int .u8)) (bm r) := by unfold bm; exact typed_arr (.int .u8) (fun i => .int .u8 (r i)) (fun i => (⟨rfl, trivial⟩ : _ ∧ True)) 64
theorem rm_typed (r : Nat → Bool) : Typed (List.replicate 512 .bool) (rm r) := by 
  have h : ∀ n, Typed (List.replicate n .bool) (arr n fun i => .bool (r i)) := typed_arr .bool (fun i => .bool (r i)) (fun i => trivial)
  unfold rm
  exact h _
theorem bm_eq {r s : Nat → Int} (h : ∀ i, i < 64 → r i = s i) : eqB (bm r) (bm s) = true := (eqB_iff (bm_typed r) (bm_typed s)).2 (bm_congr h)
theorem tb_takeF {r : Nat → Int} (hr : By r) (i : Int) (h : 0 ≤ i ∧ i < 512) (b : Bool) : tb (takeB r i b) = fun j => if j = i.toNat then b else tb r j := by
  funext j
  unfold takeB
  rw [if_pos h, tb_setb hr]
theorem bitmapBack (W : World) (A0 : Option Addr) (c0 : Nat) (xs : List Int) (i : Int) (hrd : Rds [old W] A0 (u8l xs)) (hx : xs.length ≤ 9223372036854775807) (hb : ∀ z ∈ xs, 0 ≤ z ∧ z ≤ 255) :
    Does Try.prog 6 [.slice A0 xs.length c0, .int .i64 i] [old W] (fun _ : Unit => True) (fun _ => .bool true) (fun _ => [old W]) := by
  intro w hw
  have hby := byF_by hb
  refine f_enter Try.func6 rfl Try.ntmps6 rfl hw ?_
  have h1 := hby.takeB i true
  have h2 := h1.takeB i false
  have h3 := h2.takeB i true
  by_cases hin : 0 ≤ i ∧ i < 512
  · cases hhas : tb (byF xs) i.toNat
    · have e1 : hasB (byF xs) i = false := by unfold hasB; simp [hhas]
      have e2 : eqB (bm (takeB (takeB (byF xs) i true) i false)) (bm (byF xs)) = true := bm_eq (by_ext h2 hby fun j _ => by rw [tb_takeF h1 i hin, tb_takeF hby i hin]; by_cases h : j = i.toNat <;> simp [h, hhas])
      repeat' (first
        | (refine s_is ?_; first
            | (refine s_isret ?_; first
                | exact f_r1 rfl (res_t rfl) () trivial rfl (fun w h => h.mask [false, false, true]))
            | (refine s_isw ?_; first
                | refine c_seq ?_
                | refine c_block ?_
                | refine c_region ?_
                | refine c_mixed mixed (by kernel_rfl) ?_
                | refine c_skip ?_
                | refine c_ret ?_
                | refine c_exit ?_
                | (refine s_iscond ?_; first
                    | (refine c_true rfl (by first | with_reducible rfl | ((with_reducible refine decide_eq_true ?_); first | with_reducible rfl | with_reducible assumption | omega) | (simp only [Bool.not_eq_true', decide_eq_false_iff_not]; omega) | (with_reducible assumption) | (rw [decide_eq_false] <;> (first | omega | with_reducible rfl)) | (rw [decide_eq_true] <;> (first | omega | with_reducible rfl)) | (simp; done) | (simp; omega)) ?_)
                    | (refine c_false rfl (by first | with_reducible rfl | ((with_reducible refine decide_eq_false ?_); first | with_reducible assumption | omega) | (simp only [Bool.not_eq_false', decide_eq_true_eq]; omega) | (with_reducible assumption) | (rw [decide_eq_false] <;> (first | omega | with_reducible rfl)) | (rw [decide_eq_true] <;> (first | omega | with_reducible rfl)) | (simp; done) | (simp; omega)) ?_)
                    | refine c_cond rfl (fun hc => ?_) (fun hc => ?_)
                    | refine c_condb rfl (fun hc => ?_) (fun hc => ?_)))
            | refine x_then ?_
            | refine x_then_ret ?_
            | refine x_then_exit ?_
            | refine x_block _ ?_
            | refine x_block_ret _ ?_
            | refine x_block_exit _ ?_
            | refine x_block_past (by decide) ?_
            | refine z_tailm ?_)
        | (refine z_isguard ?_; first
            | (refine z_want rfl rfl (by first | with_reducible rfl | ((with_reducible refine decide_eq_true ?_); first | with_reducible rfl | with_reducible assumption | omega) | ((with_reducible refine decide_eq_false ?_); first | with_reducible assumption | omega) | (simp only [Bool.not_eq_true', Bool.not_eq_false', decide_eq_false_iff_not, decide_eq_true_eq]; omega) | (with_reducible assumption) | (rw [decide_eq_false] <;> (first | omega | with_reducible rfl)) | (rw [decide_eq_true] <;> (first | omega | with_reducible rfl)) | (simp; done) | (simp; omega)) ?_)
            | (refine z_skip (by decide) rfl rfl (by first | with_reducible rfl | ((with_reducible refine decide_eq_true ?_); first | with_reducible rfl | with_reducible assumption | omega) | ((with_reducible refine decide_eq_false ?_); first | with_reducible assumption | omega) | (simp only [Bool.not_eq_true', Bool.not_eq_false', decide_eq_false_iff_not, decide_eq_true_eq]; omega) | (with_reducible assumption) | (rw [decide_eq_false] <;> (first | omega | with_reducible rfl)) | (rw [decide_eq_true] <;> (first | omega | with_reducible rfl)) | (simp; done) | (simp; omega)) ?_)
            | refine z_skipu (by decide) rfl rfl ?_
            | refine z_guard1 (by decide) rfl rfl (fun hc => ?_) (fun hc => ?_)
            | refine z_guard0 (by decide) rfl rfl (fun hc => ?_) (fun hc => ?_)
            | refine z_guardb (by decide) rfl rfl (fun hc => ?_) (fun hc => ?_))
        | (refine z_isnil ?_; first
            | refine z_list ?_
            | refine z_mixed ?_
            | refine z_mono0 ?_
            | refine z_mono1 (by decide) fun g => ?_
            | refine z_mono2 (by decide) (by decide) fun g g' => ?_
            | refine z_mixedx ?_
            | refine z_quiet ?_)
        | (refine z_isop ?_; first
            | refine o_boxa rfl rfl (by decide) fun g => ?_
            | refine o_alloca (e := 26) (vs := bm (fun _ => 0)) rfl (by kernel_rfl) (by decide) fun g => ?_
            | refine o_alloca (e := 24) (vs := bm (fun _ => 0)) rfl (by kernel_rfl) (by decide) fun g => ?_
            | refine o_alloca (e := 23) (vs := bm (fun _ => 0)) rfl (by kernel_rfl) (by decide) fun g => ?_
            | refine o_alloca (e := 49) (vs := rm (fun _ => false)) rfl (by kernel_rfl) (by decide) fun g => ?_
            | refine m_alloca (e := 26) (vs := bm (fun _ => 0)) (by kernel_rfl) ?_
            | (refine z_isbin ?_; first
                | refine o_eqa cmp26 rfl rfl (bm_typed _) (bm_typed _) (by decide) ?_
                | (refine z_isb .add ?_; first
                    | refine o_add rfl rfl (by omega) (by omega) (by decide) ?_
                    | refine o_addw rfl rfl (by decide) ?_)
                | (refine z_isb .sub ?_; first
                    | refine o_sub rfl rfl (by omega) (by omega) (by decide) ?_
                    | refine o_subw rfl rfl (by decide) ?_)
                | (refine z_isb .mul ?_; first
                    | refine o_mul rfl rfl (by omega) (by omega) (by decide) ?_
                    | refine o_mulw rfl rfl (by decide) ?_)
                | (refine z_isb .eql ?_; first
                    | refine o_eq rfl rfl (by decide) ?_
                    | refine o_beq tabOk rfl rfl rfl (by decide) ?_
                    | refine o_peq tabOk rfl rfl (by decide) ?_)
                | (refine z_isb .neq ?_; first
                    | refine o_ne rfl rfl (by decide) ?_
                    | refine o_bne tabOk rfl rfl rfl (by decide) ?_
                    | refine o_pne tabOk rfl rfl (by decide) ?_)
                | (refine z_isb .lss ?_; first
                    | refine o_lt rfl rfl (by decide) ?_)
                | (refine z_isb .leq ?_; first
                    | refine o_le rfl rfl (by decide) ?_)
                | (refine z_isb .gtr ?_; first
                    | refine o_gt rfl rfl (by decide) ?_)
                | (refine z_isb .geq ?_; first
                    | refine o_ge rfl rfl (by decide) ?_)
                | (refine z_isb .quo ?_; first
                    | refine o_quo rfl rfl (by omega) (by omega) (by omega) (by decide) ?_
                    | refine o_quo8 rfl rfl (by omega) (by omega) (by omega) (by decide) ?_
                    | refine o_quot rfl rfl (by omega) (by decide) ?_)
                | (refine z_isb .rem ?_; first
                    | refine o_rem rfl rfl (by omega) (by omega) (by decide) ?_
                    | refine o_remk rfl rfl (by omega) (by omega) (by decide) ?_
                    | refine o_remt rfl rfl (by omega) (by decide) ?_)
                | (refine z_isb .and ?_; first
                    | refine o_and rfl rfl (by decide) ?_)
                | (refine z_isb .or ?_; first
                    | refine o_or rfl rfl (by decide) ?_)
                | (refine z_isb .andNot ?_; first
                    | refine o_andNot rfl rfl (by decide) ?_)
                | (refine z_isb .shl ?_; first
                    | refine o_shl rfl rfl (by omega) (by decide) ?_)
                | (refine z_isb .shr ?_; first
                    | refine o_shr rfl rfl (by omega) (by decide) ?_))
            | (refine z_isload ?_; first
                | (refine z_ld1 tabOk rfl rfl ?_; first
                    | ((refine z_ldi 0 rfl rfl ?_; refine o_load tabOk rfl rfl rfl 0 rfl (by first | exact bm_at _ (by omega) | exact rm_at _ (by omega) | rfl) (by decide) ?_))
                    | ((refine z_ldi 1 rfl rfl ?_; refine o_load tabOk rfl rfl rfl 1 rfl (by first | exact bm_at _ (by omega) | exact rm_at _ (by omega) | rfl) (by decide) ?_))
                    | ((refine z_ldi 2 rfl rfl ?_; refine o_load tabOk rfl rfl rfl 2 rfl (by first | exact bm_at _ (by omega) | exact rm_at _ (by omega) | rfl) (by decide) ?_))
                    | ((refine z_ldi 3 rfl rfl ?_; refine o_load tabOk rfl rfl rfl 3 rfl (by first | exact bm_at _ (by omega) | exact rm_at _ (by omega) | rfl) (by decide) ?_))
                    | ((refine z_ldi 4 rfl rfl ?_; refine o_load tabOk rfl rfl rfl 4 rfl (by first | exact bm_at _ (by omega) | exact rm_at _ (by omega) | rfl) (by decide) ?_))
                    | ((refine z_ldi 5 rfl rfl ?_; refine o_load tabOk rfl rfl rfl 5 rfl (by first | exact bm_at _ (by omega) | exact rm_at _ (by omega) | rfl) (by decide) ?_))
                    | ((refine z_ldi 6 rfl rfl ?_; refine o_load tabOk rfl rfl rfl 6 rfl (by first | exact bm_at _ (by omega) | exact rm_at _ (by omega) | rfl) (by decide) ?_))
                    | refine o_loads tabOk (by first | assumption | exact Rds.cons _ (by assumption) | exact Rds.cons _ (Rds.cons _ (by assumption)) | exact own_rds 0 rfl | exact own_rds 1 rfl | exact own_rds 2 rfl) rfl rfl rfl (by first | exact bm_at _ (by omega) | exact rm_at _ (by omega) | rfl) (by decide) ?_)
                | (refine z_ldw tabOk rfl rfl ?_; first
                    | ((refine z_ldi 0 rfl rfl ?_; refine o_loadw tabOk rfl rfl rfl 0 rfl (by first | exact bm_len _ | exact rm_len _ | (simp only [bm_len, rm_len]) | rfl) (by decide) ?_))
                    | ((refine z_ldi 1 rfl rfl ?_; refine o_loadw tabOk rfl rfl rfl 1 rfl (by first | exact bm_len _ | exact rm_len _ | (simp only [bm_len, rm_len]) | rfl) (by decide) ?_))
                    | ((refine z_ldi 2 rfl rfl ?_; refine o_loadw tabOk rfl rfl rfl 2 rfl (by first | exact bm_len _ | exact rm_len _ | (simp only [bm_len, rm_len]) | rfl) (by decide) ?_))
                    | ((refine z_ldi 3 rfl rfl ?_; refine o_loadw tabOk rfl rfl rfl 3 rfl (by first | exact bm_len _ | exact rm_len _ | (simp only [bm_len, rm_len]) | rfl) (by decide) ?_))
                    | ((refine z_ldi 4 rfl rfl ?_; refine o_loadw tabOk rfl rfl rfl 4 rfl (by first | exact bm_len _ | exact rm_len _ | (simp only [bm_len, rm_len]) | rfl) (by decide) ?_))
                    | ((refine z_ldi 5 rfl rfl ?_; refine o_loadw tabOk rfl rfl rfl 5 rfl (by first | exact bm_len _ | exact rm_len _ | (simp only [bm_len, rm_len]) | rfl) (by decide) ?_))
                    | ((refine z_ldi 6 rfl rfl ?_; refine o_loadw tabOk rfl rfl rfl 6 rfl (by first | exact bm_len _ | exact rm_len _ | (simp only [bm_len, rm_len]) | rfl) (by decide) ?_))))
            | (refine z_isstore ?_; first
                | (refine z_stw rfl ?_; first
                    | ((refine z_sti 0 rfl rfl ?_; refine o_storeb0 rfl tabOk rfl rfl rfl (by first | exact bm_len _ | exact rm_len _ | (simp only [bm_len, rm_len]) | rfl) (by first | exact bm_one _ | exact rm_one _ | rfl) (by first | exact bm_len _ | exact rm_len _ | (simp only [bm_len, rm_len]) | rfl) ?_))
                    | ((refine z_sti 1 rfl rfl ?_; refine o_storeb1 rfl tabOk rfl rfl rfl (by first | exact bm_len _ | exact rm_len _ | (simp only [bm_len, rm_len]) | rfl) (by first | exact bm_one _ | exact rm_one _ | rfl) (by first | exact bm_len _ | exact rm_len _ | (simp only [bm_len, rm_len]) | rfl) ?_))
                    | ((refine z_sti 2 rfl rfl ?_; refine o_storeb2 rfl tabOk rfl rfl rfl (by first | exact bm_len _ | exact rm_len _ | (simp only [bm_len, rm_len]) | rfl) (by first | exact bm_one _ | exact rm_one _ | rfl) (by first | exact bm_len _ | exact rm_len _ | (simp only [bm_len, rm_len]) | rfl) ?_))
                    | ((refine z_sti 3 rfl rfl ?_; refine o_storeb3 rfl tabOk rfl rfl rfl (by first | exact bm_len _ | exact rm_len _ | (simp only [bm_len, rm_len]) | rfl) (by first | exact bm_one _ | exact rm_one _ | rfl) (by first | exact bm_len _ | exact rm_len _ | (simp only [bm_len, rm_len]) | rfl) ?_))
                    | ((refine z_sti 4 rfl rfl ?_; refine o_storeb4 rfl tabOk rfl rfl rfl (by first | exact bm_len _ | exact rm_len _ | (simp only [bm_len, rm_len]) | rfl) (by first | exact bm_one _ | exact rm_one _ | rfl) (by first | exact bm_len _ | exact rm_len _ | (simp only [bm_len, rm_len]) | rfl) ?_))
                    | ((refine z_sti 5 rfl rfl ?_; refine o_storeb5 rfl tabOk rfl rfl rfl (by first | exact bm_len _ | exact rm_len _ | (simp only [bm_len, rm_len]) | rfl) (by first | exact bm_one _ | exact rm_one _ | rfl) (by first | exact bm_len _ | exact rm_len _ | (simp only [bm_len, rm_len]) | rfl) ?_))
                    | ((refine z_sti 6 rfl rfl ?_; refine o_storeb6 rfl tabOk rfl rfl rfl (by first | exact bm_len _ | exact rm_len _ | (simp only [bm_len, rm_len]) | rfl) (by first | exact bm_one _ | exact rm_one _ | rfl) (by first | exact bm_len _ | exact rm_len _ | (simp only [bm_len, rm_len]) | rfl) ?_)))
                | (refine z_st1 rfl rfl ?_; first
                    | refine o_store rfl tabOk rfl rfl rfl rfl rfl (by first | exact bm_at _ (by omega) | exact rm_at _ (by omega) | rfl) (by first | exact bm_set _ _ _ | exact rm_set _ _ _ | rfl) ?_
                    | ((refine z_sti 1 rfl rfl ?_; refine o_store1 rfl tabOk rfl rfl rfl rfl rfl (by first | exact bm_at _ (by omega) | exact rm_at _ (by omega) | rfl) (by first | exact bm_set _ _ _ | exact rm_set _ _ _ | rfl) ?_))
                    | ((refine z_sti 2 rfl rfl ?_; refine o_store2 rfl tabOk rfl rfl rfl rfl rfl (by first | exact bm_at _ (by omega) | exact rm_at _ (by omega) | rfl) (by first | exact bm_set _ _ _ | exact rm_set _ _ _ | rfl) ?_))
                    | ((refine z_sti 3 rfl rfl ?_; refine o_store3 rfl tabOk rfl rfl rfl rfl rfl (by first | exact bm_at _ (by omega) | exact rm_at _ (by omega) | rfl) (by first | exact bm_set _ _ _ | exact rm_set _ _ _ | rfl) ?_))
                    | ((refine z_sti 4 rfl rfl ?_; refine o_store4 rfl tabOk rfl rfl rfl rfl rfl (by first | exact bm_at _ (by omega) | exact rm_at _ (by omega) | rfl) (by first | exact bm_set _ _ _ | exact rm_set _ _ _ | rfl) ?_))
                    | ((refine z_sti 5 rfl rfl ?_; refine o_store5 rfl tabOk rfl rfl rfl rfl rfl (by first | exact bm_at _ (by omega) | exact rm_at _ (by omega) | rfl) (by first | exact bm_set _ _ _ | exact rm_set _ _ _ | rfl) ?_))
                    | ((refine z_sti 6 rfl rfl ?_; refine o_store6 rfl tabOk rfl rfl rfl rfl rfl (by first | exact bm_at _ (by omega) | exact rm_at _ (by omega) | rfl) (by first | exact bm_set _ _ _ | exact rm_set _ _ _ | rfl) ?_))))
            | (refine z_isfield ?_; first
                | refine o_fv tabOk rfl rfl rfl rfl rfl (by first | exact bm_at _ (by omega) | exact rm_at _ (by omega) | rfl) (by decide) ?_
                | refine o_fvw tabOk rfl rfl rfl rfl rfl (by first | exact bm_len _ | exact rm_len _ | (simp only [bm_len, rm_len]) | rfl) (by decide) ?_)
            | (refine z_isindex ?_; first
                | refine o_ixv tabOk rfl rfl rfl rfl rfl (by omega) (by omega) (by first | exact bm_at _ (by omega) | exact rm_at _ (by omega) | rfl) (by decide) ?_)
            | (refine z_ismakes ?_; first
                | refine o_make1 rfl tabOk zeroOk rfl rfl rfl rfl rfl (by decide) fun g => ?_)
            | (refine z_iscall ?_; first
                | refine o_call Try.func13 rfl rfl rfl (ofb_c xs _ _ [old W] hrd hx) (List.Perm.refl _) (by decide) fun _ _ => ?_
                | ((refine z_iscallf 44 ?_; refine o_fn rfl Try.func44 rfl rfl rfl (in_fn _) (by decide) ?_))
                | ((refine z_iscallf 16 ?_; refine o_fn rfl Try.func16 rfl rfl rfl (has_fn _ (by assumption) _) (by decide) ?_))
                | ((refine z_iscallf 17 ?_; refine o_fn rfl Try.func17 rfl rfl rfl (take_fn _ (by assumption) _) (by decide) ?_))
                | ((refine z_iscallf 25 ?_; refine o_fn rfl Try.func25 rfl rfl rfl (free_fn _ (by assumption) _) (by decide) ?_))
                | ((refine z_iscallf 12 ?_; refine o_fn rfl Try.func12 rfl rfl rfl (of_fn _) (by decide) ?_))
                | ((refine z_iscallf 24 ?_; refine o_fn rfl Try.func24 rfl rfl rfl (block_fn _) (by decide) ?_))
                | ((refine z_iscallf 14 ?_; refine o_fn rfl Try.func14 rfl rfl rfl (count_fn _ (by assumption) _ _) (by decide) ?_))
                | ((refine z_iscallf 18 ?_; refine o_fn rfl Try.func18 rfl rfl rfl (awake24) (by decide) ?_)))
            | (refine z_ispick ?_; first
                | (refine o_pick1 rfl (by first | with_reducible rfl | ((with_reducible refine decide_eq_true ?_); first | with_reducible rfl | with_reducible assumption | omega) | (simp only [Bool.not_eq_true', decide_eq_false_iff_not]; omega) | (with_reducible assumption) | (rw [decide_eq_false] <;> (first | omega | with_reducible rfl)) | (rw [decide_eq_true] <;> (first | omega | with_reducible rfl)) | (simp; done) | (simp; omega)) rfl (by decide) ?_)
                | (refine o_pick0 rfl (by first | with_reducible rfl | ((with_reducible refine decide_eq_false ?_); first | with_reducible assumption | omega) | (simp only [Bool.not_eq_false', decide_eq_true_eq]; omega) | (with_reducible assumption) | (rw [decide_eq_false] <;> (first | omega | with_reducible rfl)) | (rw [decide_eq_true] <;> (first | omega | with_reducible rfl)) | (simp; done) | (simp; omega)) rfl (by decide) ?_))
            | (refine z_isix ?_; first
                | refine o_index0 tabOk rfl rfl rfl rfl (by omega) (by omega) (by decide) ?_
                | refine o_index1 tabOk rfl rfl rfl rfl (by omega) (by omega) (by decide) ?_
                | refine o_indexsk tabOk rfl rfl rfl rfl (by omega) (by omega) (by decide) ?_
                | refine o_indexs1 tabOk (by first | assumption) rfl rfl rfl rfl (by omega) (by omega) (by decide) ?_)
            | (refine z_isslice ?_; first
                | refine o_slice tabOk rfl rfl rfl rfl rfl (by omega) (by omega) (by omega) (by decide) ?_
                | refine o_slicel tabOk rfl rfl rfl rfl (by omega) (by omega) (by omega) (by decide) ?_
                | refine o_sliceh tabOk rfl rfl rfl rfl (by omega) (by omega) (by decide) ?_
                | refine o_slp tabOk rfl rfl rfl rfl rfl (by omega) (by omega) (by omega) (by omega) (by decide) ?_
                | refine o_slpl tabOk rfl rfl rfl rfl (by omega) (by omega) (by decide) ?_
                | refine o_slp0 tabOk rfl rfl rfl rfl (by decide) ?_)
            | (refine z_isbi ?_; first
                | refine o_len tabOk rfl rfl (by decide) ?_
                | refine o_min rfl rfl (by decide) ?_
                | refine o_max rfl rfl (by decide) ?_
                | refine o_append rfl tabOk zeroOk rfl rfl rfl rfl rfl rfl (by first | assumption | exact Rds.cons _ (by assumption) | exact Rds.cons _ (Rds.cons _ (by assumption)) | exact own_rds 0 rfl | exact own_rds 1 rfl | exact own_rds 2 rfl) (by first | rfl | simp) (by first | rfl | simp) (by omega) (by omega) (by decide) fun A' c' => ?_
                | (refine z_front rfl 1 rfl ?_; refine o_append rfl tabOk zeroOk rfl rfl rfl rfl rfl rfl (by first | assumption | exact Rds.cons _ (by assumption) | exact Rds.cons _ (Rds.cons _ (by assumption)) | exact own_rds 0 rfl | exact own_rds 1 rfl | exact own_rds 2 rfl) (by first | rfl | simp) (by first | rfl | simp) (by omega) (by omega) (by decide) fun A' c' => ?_)
                | (refine z_front rfl 2 rfl ?_; refine o_append rfl tabOk zeroOk rfl rfl rfl rfl rfl rfl (by first | assumption | exact Rds.cons _ (by assumption) | exact Rds.cons _ (Rds.cons _ (by assumption)) | exact own_rds 0 rfl | exact own_rds 1 rfl | exact own_rds 2 rfl) (by first | rfl | simp) (by first | rfl | simp) (by omega) (by omega) (by decide) fun A' c' => ?_)
                | (refine z_front rfl 3 rfl ?_; refine o_append rfl tabOk zeroOk rfl rfl rfl rfl rfl rfl (by first | assumption | exact Rds.cons _ (by assumption) | exact Rds.cons _ (Rds.cons _ (by assumption)) | exact own_rds 0 rfl | exact own_rds 1 rfl | exact own_rds 2 rfl) (by first | rfl | simp) (by first | rfl | simp) (by omega) (by omega) (by decide) fun A' c' => ?_)
                | (refine z_front rfl 4 rfl ?_; refine o_append rfl tabOk zeroOk rfl rfl rfl rfl rfl rfl (by first | assumption | exact Rds.cons _ (by assumption) | exact Rds.cons _ (Rds.cons _ (by assumption)) | exact own_rds 0 rfl | exact own_rds 1 rfl | exact own_rds 2 rfl) (by first | rfl | simp) (by first | rfl | simp) (by omega) (by omega) (by decide) fun A' c' => ?_)
                | (refine z_front rfl 5 rfl ?_; refine o_append rfl tabOk zeroOk rfl rfl rfl rfl rfl rfl (by first | assumption | exact Rds.cons _ (by assumption) | exact Rds.cons _ (Rds.cons _ (by assumption)) | exact own_rds 0 rfl | exact own_rds 1 rfl | exact own_rds 2 rfl) (by first | rfl | simp) (by first | rfl | simp) (by omega) (by omega) (by decide) fun A' c' => ?_))
            | refine o_move rfl (by decide) ?_
            | refine o_assign rfl (by decide) ?_
            | refine o_nil rfl (by decide) ?_
            | refine o_extract rfl rfl (by decide) ?_
            | refine o_not rfl (by decide) ?_
            | refine o_field0 tabOk rfl rfl rfl rfl rfl (by decide) ?_
            | refine o_field tabOk rfl rfl rfl rfl rfl (by decide) ?_
            | refine o_conv tabOk rfl rfl rfl (by decide) ?_))
    · have e1 : hasB (byF xs) i = true := by unfold hasB; simp [hhas, hin]
      have e0 : hasB (takeB (takeB (byF xs) i true) i false) i = false := by unfold hasB; rw [tb_takeF h1 i hin]; simp
      have e2 : eqB (bm (takeB (takeB (takeB (byF xs) i true) i false) i true)) (bm (byF xs)) = true := bm_eq (by_ext h3 hby fun j _ => by rw [tb_takeF h2 i hin, tb_takeF h1 i hin, tb_takeF hby i hin]; by_cases h : j = i.toNat <;> simp [h, hhas])
      have e3 : countV (takeB (takeB (byF xs) i true) i false) 0 512 + 1 = countV (byF xs) 0 512 := by
        unfold countV
        have h4 : (tb (takeB (takeB (takeB (byF xs) i true) i false) i true)) = tb (byF xs) := by
          funext j
          rw [tb_takeF h2 i hin, tb_takeF h1 i hin, tb_takeF hby i hin]
          by_cases h : j = i.toNat <;> simp [h, hhas]
        rw [← h4, tb_takeF h2 i hin true]
        have := cn_upd (x := tb (takeB (takeB (byF xs) i true) i false)) (a := 0) (k := i.toNat) (n := 512) (by rw [tb_takeF h1 i hin]; simp) (Nat.zero_le _)
        rw [if_pos (by omega)] at this
        exact this.symm
      have e4 : countV (byF xs) 0 512 ≤ 512 := by unfold countV; exact cn_le _ _ _
      repeat' (first
        | (refine s_is ?_; first
            | (refine s_isret ?_; first
                | exact f_r1 rfl (res_t rfl) () trivial rfl (fun w h => h.mask [false, false, true]))
            | (refine s_isw ?_; first
                | refine c_seq ?_
                | refine c_block ?_
                | refine c_region ?_
                | refine c_mixed mixed (by kernel_rfl) ?_
                | refine c_skip ?_
                | refine c_ret ?_
                | refine c_exit ?_
                | (refine s_iscond ?_; first
                    | (refine c_true rfl (by first | with_reducible rfl | ((with_reducible refine decide_eq_true ?_); first | with_reducible rfl | with_reducible assumption | omega) | (simp only [Bool.not_eq_true', decide_eq_false_iff_not]; omega) | (with_reducible assumption) | (rw [decide_eq_false] <;> (first | omega | with_reducible rfl)) | (rw [decide_eq_true] <;> (first | omega | with_reducible rfl)) | (simp; done) | (simp; omega)) ?_)
                    | (refine c_false rfl (by first | with_reducible rfl | ((with_reducible refine decide_eq_false ?_); first | with_reducible assumption | omega) | (simp only [Bool.not_eq_false', decide_eq_true_eq]; omega) | (with_reducible assumption) | (rw [decide_eq_false] <;> (first | omega | with_reducible rfl)) | (rw [decide_eq_true] <;> (first | omega | with_reducible rfl)) | (simp; done) | (simp; omega)) ?_)
                    | refine c_cond rfl (fun hc => ?_) (fun hc => ?_)
                    | refine c_condb rfl (fun hc => ?_) (fun hc => ?_)))
            | refine x_then ?_
            | refine x_then_ret ?_
            | refine x_then_exit ?_
            | refine x_block _ ?_
            | refine x_block_ret _ ?_
            | refine x_block_exit _ ?_
            | refine x_block_past (by decide) ?_
            | refine z_tailm ?_)
        | (refine z_isguard ?_; first
            | (refine z_want rfl rfl (by first | with_reducible rfl | ((with_reducible refine decide_eq_true ?_); first | with_reducible rfl | with_reducible assumption | omega) | ((with_reducible refine decide_eq_false ?_); first | with_reducible assumption | omega) | (simp only [Bool.not_eq_true', Bool.not_eq_false', decide_eq_false_iff_not, decide_eq_true_eq]; omega) | (with_reducible assumption) | (rw [decide_eq_false] <;> (first | omega | with_reducible rfl)) | (rw [decide_eq_true] <;> (first | omega | with_reducible rfl)) | (simp; done) | (simp; omega)) ?_)
            | (refine z_skip (by decide) rfl rfl (by first | with_reducible rfl | ((with_reducible refine decide_eq_true ?_); first | with_reducible rfl | with_reducible assumption | omega) | ((with_reducible refine decide_eq_false ?_); first | with_reducible assumption | omega) | (simp only [Bool.not_eq_true', Bool.not_eq_false', decide_eq_false_iff_not, decide_eq_true_eq]; omega) | (with_reducible assumption) | (rw [decide_eq_false] <;> (first | omega | with_reducible rfl)) | (rw [decide_eq_true] <;> (first | omega | with_reducible rfl)) | (simp; done) | (simp; omega)) ?_)
            | refine z_skipu (by decide) rfl rfl ?_
            | refine z_guard1 (by decide) rfl rfl (fun hc => ?_) (fun hc => ?_)
            | refine z_guard0 (by decide) rfl rfl (fun hc => ?_) (fun hc => ?_)
            | refine z_guardb (by decide) rfl rfl (fun hc => ?_) (fun hc => ?_))
        | (refine z_isnil ?_; first
            | refine z_list ?_
            | refine z_mixed ?_
            | refine z_mono0 ?_
            | refine z_mono1 (by decide) fun g => ?_
            | refine z_mono2 (by decide) (by decide) fun g g' => ?_
            | refine z_mixedx ?_
            | refine z_quiet ?_)
        | (refine z_isop ?_; first
            | refine o_boxa rfl rfl (by decide) fun g => ?_
            | refine o_alloca (e := 26) (vs := bm (fun _ => 0)) rfl (by kernel_rfl) (by decide) fun g => ?_
            | refine o_alloca (e := 24) (vs := bm (fun _ => 0)) rfl (by kernel_rfl) (by decide) fun g => ?_
            | refine o_alloca (e := 23) (vs := bm (fun _ => 0)) rfl (by kernel_rfl) (by decide) fun g => ?_
            | refine o_alloca (e := 49) (vs := rm (fun _ => false)) rfl (by kernel_rfl) (by decide) fun g => ?_
            | refine m_alloca (e := 26) (vs := bm (fun _ => 0)) (by kernel_rfl) ?_
            | (refine z_isbin ?_; first
                | refine o_eqa cmp26 rfl rfl (bm_typed _) (bm_typed _) (by decide) ?_
                | (refine z_isb .add ?_; first
                    | refine o_add rfl rfl (by omega) (by omega) (by decide) ?_
                    | refine o_addw rfl rfl (by decide) ?_)
                | (refine z_isb .sub ?_; first
                    | refine o_sub rfl rfl (by omega) (by omega) (by decide) ?_
                    | refine o_subw rfl rfl (by decide) ?_)
                | (refine z_isb .mul ?_; first
                    | refine o_mul rfl rfl (by omega) (by omega) (by decide) ?_
                    | refine o_mulw rfl rfl (by decide) ?_)
                | (refine z_isb .eql ?_; first
                    | refine o_eq rfl rfl (by decide) ?_
                    | refine o_beq tabOk rfl rfl rfl (by decide) ?_
                    | refine o_peq tabOk rfl rfl (by decide) ?_)
                | (refine z_isb .neq ?_; first
                    | refine o_ne rfl rfl (by decide) ?_
                    | refine o_bne tabOk rfl rfl rfl (by decide) ?_
                    | refine o_pne tabOk rfl rfl (by decide) ?_)
                | (refine z_isb .lss ?_; first
                    | refine o_lt rfl rfl (by decide) ?_)
                | (refine z_isb .leq ?_; first
                    | refine o_le rfl rfl (by decide) ?_)
                | (refine z_isb .gtr ?_; first
                    | refine o_gt rfl rfl (by decide) ?_)
                | (refine z_isb .geq ?_; first
                    | refine o_ge rfl rfl (by decide) ?_)
                | (refine z_isb .quo ?_; first
                    | refine o_quo rfl rfl (by omega) (by omega) (by omega) (by decide) ?_
                    | refine o_quo8 rfl rfl (by omega) (by omega) (by omega) (by decide) ?_
                    | refine o_quot rfl rfl (by omega) (by decide) ?_)
                | (refine z_isb .rem ?_; first
                    | refine o_rem rfl rfl (by omega) (by omega) (by decide) ?_
                    | refine o_remk rfl rfl (by omega) (by omega) (by decide) ?_
                    | refine o_remt rfl rfl (by omega) (by decide) ?_)
                | (refine z_isb .and ?_; first
                    | refine o_and rfl rfl (by decide) ?_)
                | (refine z_isb .or ?_; first
                    | refine o_or rfl rfl (by decide) ?_)
                | (refine z_isb .andNot ?_; first
                    | refine o_andNot rfl rfl (by decide) ?_)
                | (refine z_isb .shl ?_; first
                    | refine o_shl rfl rfl (by omega) (by decide) ?_)
                | (refine z_isb .shr ?_; first
                    | refine o_shr rfl rfl (by omega) (by decide) ?_))
            | (refine z_isload ?_; first
                | (refine z_ld1 tabOk rfl rfl ?_; first
                    | ((refine z_ldi 0 rfl rfl ?_; refine o_load tabOk rfl rfl rfl 0 rfl (by first | exact bm_at _ (by omega) | exact rm_at _ (by omega) | rfl) (by decide) ?_))
                    | ((refine z_ldi 1 rfl rfl ?_; refine o_load tabOk rfl rfl rfl 1 rfl (by first | exact bm_at _ (by omega) | exact rm_at _ (by omega) | rfl) (by decide) ?_))
                    | ((refine z_ldi 2 rfl rfl ?_; refine o_load tabOk rfl rfl rfl 2 rfl (by first | exact bm_at _ (by omega) | exact rm_at _ (by omega) | rfl) (by decide) ?_))
                    | ((refine z_ldi 3 rfl rfl ?_; refine o_load tabOk rfl rfl rfl 3 rfl (by first | exact bm_at _ (by omega) | exact rm_at _ (by omega) | rfl) (by decide) ?_))
                    | ((refine z_ldi 4 rfl rfl ?_; refine o_load tabOk rfl rfl rfl 4 rfl (by first | exact bm_at _ (by omega) | exact rm_at _ (by omega) | rfl) (by decide) ?_))
                    | ((refine z_ldi 5 rfl rfl ?_; refine o_load tabOk rfl rfl rfl 5 rfl (by first | exact bm_at _ (by omega) | exact rm_at _ (by omega) | rfl) (by decide) ?_))
                    | ((refine z_ldi 6 rfl rfl ?_; refine o_load tabOk rfl rfl rfl 6 rfl (by first | exact bm_at _ (by omega) | exact rm_at _ (by omega) | rfl) (by decide) ?_))
                    | refine o_loads tabOk (by first | assumption | exact Rds.cons _ (by assumption) | exact Rds.cons _ (Rds.cons _ (by assumption)) | exact own_rds 0 rfl | exact own_rds 1 rfl | exact own_rds 2 rfl) rfl rfl rfl (by first | exact bm_at _ (by omega) | exact rm_at _ (by omega) | rfl) (by decide) ?_)
                | (refine z_ldw tabOk rfl rfl ?_; first
                    | ((refine z_ldi 0 rfl rfl ?_; refine o_loadw tabOk rfl rfl rfl 0 rfl (by first | exact bm_len _ | exact rm_len _ | (simp only [bm_len, rm_len]) | rfl) (by decide) ?_))
                    | ((refine z_ldi 1 rfl rfl ?_; refine o_loadw tabOk rfl rfl rfl 1 rfl (by first | exact bm_len _ | exact rm_len _ | (simp only [bm_len, rm_len]) | rfl) (by decide) ?_))
                    | ((refine z_ldi 2 rfl rfl ?_; refine o_loadw tabOk rfl rfl rfl 2 rfl (by first | exact bm_len _ | exact rm_len _ | (simp only [bm_len, rm_len]) | rfl) (by decide) ?_))
                    | ((refine z_ldi 3 rfl rfl ?_; refine o_loadw tabOk rfl rfl rfl 3 rfl (by first | exact bm_len _ | exact rm_len _ | (simp only [bm_len, rm_len]) | rfl) (by decide) ?_))
                    | ((refine z_ldi 4 rfl rfl ?_; refine o_loadw tabOk rfl rfl rfl 4 rfl (by first | exact bm_len _ | exact rm_len _ | (simp only [bm_len, rm_len]) | rfl) (by decide) ?_))
                    | ((refine z_ldi 5 rfl rfl ?_; refine o_loadw tabOk rfl rfl rfl 5 rfl (by first | exact bm_len _ | exact rm_len _ | (simp only [bm_len, rm_len]) | rfl) (by decide) ?_))
                    | ((refine z_ldi 6 rfl rfl ?_; refine o_loadw tabOk rfl rfl rfl 6 rfl (by first | exact bm_len _ | exact rm_len _ | (simp only [bm_len, rm_len]) | rfl) (by decide) ?_))))
            | (refine z_isstore ?_; first
                | (refine z_stw rfl ?_; first
                    | ((refine z_sti 0 rfl rfl ?_; refine o_storeb0 rfl tabOk rfl rfl rfl (by first | exact bm_len _ | exact rm_len _ | (simp only [bm_len, rm_len]) | rfl) (by first | exact bm_one _ | exact rm_one _ | rfl) (by first | exact bm_len _ | exact rm_len _ | (simp only [bm_len, rm_len]) | rfl) ?_))
                    | ((refine z_sti 1 rfl rfl ?_; refine o_storeb1 rfl tabOk rfl rfl rfl (by first | exact bm_len _ | exact rm_len _ | (simp only [bm_len, rm_len]) | rfl) (by first | exact bm_one _ | exact rm_one _ | rfl) (by first | exact bm_len _ | exact rm_len _ | (simp only [bm_len, rm_len]) | rfl) ?_))
                    | ((refine z_sti 2 rfl rfl ?_; refine o_storeb2 rfl tabOk rfl rfl rfl (by first | exact bm_len _ | exact rm_len _ | (simp only [bm_len, rm_len]) | rfl) (by first | exact bm_one _ | exact rm_one _ | rfl) (by first | exact bm_len _ | exact rm_len _ | (simp only [bm_len, rm_len]) | rfl) ?_))
                    | ((refine z_sti 3 rfl rfl ?_; refine o_storeb3 rfl tabOk rfl rfl rfl (by first | exact bm_len _ | exact rm_len _ | (simp only [bm_len, rm_len]) | rfl) (by first | exact bm_one _ | exact rm_one _ | rfl) (by first | exact bm_len _ | exact rm_len _ | (simp only [bm_len, rm_len]) | rfl) ?_))
                    | ((refine z_sti 4 rfl rfl ?_; refine o_storeb4 rfl tabOk rfl rfl rfl (by first | exact bm_len _ | exact rm_len _ | (simp only [bm_len, rm_len]) | rfl) (by first | exact bm_one _ | exact rm_one _ | rfl) (by first | exact bm_len _ | exact rm_len _ | (simp only [bm_len, rm_len]) | rfl) ?_))
                    | ((refine z_sti 5 rfl rfl ?_; refine o_storeb5 rfl tabOk rfl rfl rfl (by first | exact bm_len _ | exact rm_len _ | (simp only [bm_len, rm_len]) | rfl) (by first | exact bm_one _ | exact rm_one _ | rfl) (by first | exact bm_len _ | exact rm_len _ | (simp only [bm_len, rm_len]) | rfl) ?_))
                    | ((refine z_sti 6 rfl rfl ?_; refine o_storeb6 rfl tabOk rfl rfl rfl (by first | exact bm_len _ | exact rm_len _ | (simp only [bm_len, rm_len]) | rfl) (by first | exact bm_one _ | exact rm_one _ | rfl) (by first | exact bm_len _ | exact rm_len _ | (simp only [bm_len, rm_len]) | rfl) ?_)))
                | (refine z_st1 rfl rfl ?_; first
                    | refine o_store rfl tabOk rfl rfl rfl rfl rfl (by first | exact bm_at _ (by omega) | exact rm_at _ (by omega) | rfl) (by first | exact bm_set _ _ _ | exact rm_set _ _ _ | rfl) ?_
                    | ((refine z_sti 1 rfl rfl ?_; refine o_store1 rfl tabOk rfl rfl rfl rfl rfl (by first | exact bm_at _ (by omega) | exact rm_at _ (by omega) | rfl) (by first | exact bm_set _ _ _ | exact rm_set _ _ _ | rfl) ?_))
                    | ((refine z_sti 2 rfl rfl ?_; refine o_store2 rfl tabOk rfl rfl rfl rfl rfl (by first | exact bm_at _ (by omega) | exact rm_at _ (by omega) | rfl) (by first | exact bm_set _ _ _ | exact rm_set _ _ _ | rfl) ?_))
                    | ((refine z_sti 3 rfl rfl ?_; refine o_store3 rfl tabOk rfl rfl rfl rfl rfl (by first | exact bm_at _ (by omega) | exact rm_at _ (by omega) | rfl) (by first | exact bm_set _ _ _ | exact rm_set _ _ _ | rfl) ?_))
                    | ((refine z_sti 4 rfl rfl ?_; refine o_store4 rfl tabOk rfl rfl rfl rfl rfl (by first | exact bm_at _ (by omega) | exact rm_at _ (by omega) | rfl) (by first | exact bm_set _ _ _ | exact rm_set _ _ _ | rfl) ?_))
                    | ((refine z_sti 5 rfl rfl ?_; refine o_store5 rfl tabOk rfl rfl rfl rfl rfl (by first | exact bm_at _ (by omega) | exact rm_at _ (by omega) | rfl) (by first | exact bm_set _ _ _ | exact rm_set _ _ _ | rfl) ?_))
                    | ((refine z_sti 6 rfl rfl ?_; refine o_store6 rfl tabOk rfl rfl rfl rfl rfl (by first | exact bm_at _ (by omega) | exact rm_at _ (by omega) | rfl) (by first | exact bm_set _ _ _ | exact rm_set _ _ _ | rfl) ?_))))
            | (refine z_isfield ?_; first
                | refine o_fv tabOk rfl rfl rfl rfl rfl (by first | exact bm_at _ (by omega) | exact rm_at _ (by omega) | rfl) (by decide) ?_
                | refine o_fvw tabOk rfl rfl rfl rfl rfl (by first | exact bm_len _ | exact rm_len _ | (simp only [bm_len, rm_len]) | rfl) (by decide) ?_)
            | (refine z_isindex ?_; first
                | refine o_ixv tabOk rfl rfl rfl rfl rfl (by omega) (by omega) (by first | exact bm_at _ (by omega) | exact rm_at _ (by omega) | rfl) (by decide) ?_)
            | (refine z_ismakes ?_; first
                | refine o_make1 rfl tabOk zeroOk rfl rfl rfl rfl rfl (by decide) fun g => ?_)
            | (refine z_iscall ?_; first
                | refine o_call Try.func13 rfl rfl rfl (ofb_c xs _ _ [old W] hrd hx) (List.Perm.refl _) (by decide) fun _ _ => ?_
                | ((refine z_iscallf 44 ?_; refine o_fn rfl Try.func44 rfl rfl rfl (in_fn _) (by decide) ?_))
                | ((refine z_iscallf 16 ?_; refine o_fn rfl Try.func16 rfl rfl rfl (has_fn _ (by assumption) _) (by decide) ?_))
                | ((refine z_iscallf 17 ?_; refine o_fn rfl Try.func17 rfl rfl rfl (take_fn _ (by assumption) _) (by decide) ?_))
                | ((refine z_iscallf 25 ?_; refine o_fn rfl Try.func25 rfl rfl rfl (free_fn _ (by assumption) _) (by decide) ?_))
                | ((refine z_iscallf 12 ?_; refine o_fn rfl Try.func12 rfl rfl rfl (of_fn _) (by decide) ?_))
                | ((refine z_iscallf 24 ?_; refine o_fn rfl Try.func24 rfl rfl rfl (block_fn _) (by decide) ?_))
                | ((refine z_iscallf 14 ?_; refine o_fn rfl Try.func14 rfl rfl rfl (count_fn _ (by assumption) _ _) (by decide) ?_))
                | ((refine z_iscallf 18 ?_; refine o_fn rfl Try.func18 rfl rfl rfl (awake24) (by decide) ?_)))
            | (refine z_ispick ?_; first
                | (refine o_pick1 rfl (by first | with_reducible rfl | ((with_reducible refine decide_eq_true ?_); first | with_reducible rfl | with_reducible assumption | omega) | (simp only [Bool.not_eq_true', decide_eq_false_iff_not]; omega) | (with_reducible assumption) | (rw [decide_eq_false] <;> (first | omega | with_reducible rfl)) | (rw [decide_eq_true] <;> (first | omega | with_reducible rfl)) | (simp; done) | (simp; omega)) rfl (by decide) ?_)
                | (refine o_pick0 rfl (by first | with_reducible rfl | ((with_reducible refine decide_eq_false ?_); first | with_reducible assumption | omega) | (simp only [Bool.not_eq_false', decide_eq_true_eq]; omega) | (with_reducible assumption) | (rw [decide_eq_false] <;> (first | omega | with_reducible rfl)) | (rw [decide_eq_true] <;> (first | omega | with_reducible rfl)) | (simp; done) | (simp; omega)) rfl (by decide) ?_))
            | (refine z_isix ?_; first
                | refine o_index0 tabOk rfl rfl rfl rfl (by omega) (by omega) (by decide) ?_
                | refine o_index1 tabOk rfl rfl rfl rfl (by omega) (by omega) (by decide) ?_
                | refine o_indexsk tabOk rfl rfl rfl rfl (by omega) (by omega) (by decide) ?_
                | refine o_indexs1 tabOk (by first | assumption) rfl rfl rfl rfl (by omega) (by omega) (by decide) ?_)
            | (refine z_isslice ?_; first
                | refine o_slice tabOk rfl rfl rfl rfl rfl (by omega) (by omega) (by omega) (by decide) ?_
                | refine o_slicel tabOk rfl rfl rfl rfl (by omega) (by omega) (by omega) (by decide) ?_
                | refine o_sliceh tabOk rfl rfl rfl rfl (by omega) (by omega) (by decide) ?_
                | refine o_slp tabOk rfl rfl rfl rfl rfl (by omega) (by omega) (by omega) (by omega) (by decide) ?_
                | refine o_slpl tabOk rfl rfl rfl rfl (by omega) (by omega) (by decide) ?_
                | refine o_slp0 tabOk rfl rfl rfl rfl (by decide) ?_)
            | (refine z_isbi ?_; first
                | refine o_len tabOk rfl rfl (by decide) ?_
                | refine o_min rfl rfl (by decide) ?_
                | refine o_max rfl rfl (by decide) ?_
                | refine o_append rfl tabOk zeroOk rfl rfl rfl rfl rfl rfl (by first | assumption | exact Rds.cons _ (by assumption) | exact Rds.cons _ (Rds.cons _ (by assumption)) | exact own_rds 0 rfl | exact own_rds 1 rfl | exact own_rds 2 rfl) (by first | rfl | simp) (by first | rfl | simp) (by omega) (by omega) (by decide) fun A' c' => ?_
                | (refine z_front rfl 1 rfl ?_; refine o_append rfl tabOk zeroOk rfl rfl rfl rfl rfl rfl (by first | assumption | exact Rds.cons _ (by assumption) | exact Rds.cons _ (Rds.cons _ (by assumption)) | exact own_rds 0 rfl | exact own_rds 1 rfl | exact own_rds 2 rfl) (by first | rfl | simp) (by first | rfl | simp) (by omega) (by omega) (by decide) fun A' c' => ?_)
                | (refine z_front rfl 2 rfl ?_; refine o_append rfl tabOk zeroOk rfl rfl rfl rfl rfl rfl (by first | assumption | exact Rds.cons _ (by assumption) | exact Rds.cons _ (Rds.cons _ (by assumption)) | exact own_rds 0 rfl | exact own_rds 1 rfl | exact own_rds 2 rfl) (by first | rfl | simp) (by first | rfl | simp) (by omega) (by omega) (by decide) fun A' c' => ?_)
                | (refine z_front rfl 3 rfl ?_; refine o_append rfl tabOk zeroOk rfl rfl rfl rfl rfl rfl (by first | assumption | exact Rds.cons _ (by assumption) | exact Rds.cons _ (Rds.cons _ (by assumption)) | exact own_rds 0 rfl | exact own_rds 1 rfl | exact own_rds 2 rfl) (by first | rfl | simp) (by first | rfl | simp) (by omega) (by omega) (by decide) fun A' c' => ?_)
                | (refine z_front rfl 4 rfl ?_; refine o_append rfl tabOk zeroOk rfl rfl rfl rfl rfl rfl (by first | assumption | exact Rds.cons _ (by assumption) | exact Rds.cons _ (Rds.cons _ (by assumption)) | exact own_rds 0 rfl | exact own_rds 1 rfl | exact own_rds 2 rfl) (by first | rfl | simp) (by first | rfl | simp) (by omega) (by omega) (by decide) fun A' c' => ?_)
                | (refine z_front rfl 5 rfl ?_; refine o_append rfl tabOk zeroOk rfl rfl rfl rfl rfl rfl (by first | assumption | exact Rds.cons _ (by assumption) | exact Rds.cons _ (Rds.cons _ (by assumption)) | exact own_rds 0 rfl | exact own_rds 1 rfl | exact own_rds 2 rfl) (by first | rfl | simp) (by first | rfl | simp) (by omega) (by omega) (by decide) fun A' c' => ?_))
            | refine o_move rfl (by decide) ?_
            | refine o_assign rfl (by decide) ?_
            | refine o_nil rfl (by decide) ?_
            | refine o_extract rfl rfl (by decide) ?_
            | refine o_not rfl (by decide) ?_
            | refine o_field0 tabOk rfl rfl rfl rfl rfl (by decide) ?_
            | refine o_field tabOk rfl rfl rfl rfl rfl (by decide) ?_
            | refine o_conv tabOk rfl rfl rfl (by decide) ?_))
  · have e1 : hasB (byF xs) i = false := by unfold hasB; simp [hin]
    have e5 : takeB (takeB (byF xs) i true) i false = byF xs := by rw [take_out hin, take_out hin]
    have e2 : eqB (bm (takeB (takeB (byF xs) i true) i false)) (bm (byF xs)) = true := by rw [e5]; exact bm_eq fun _ _ => rfl
    repeat' (first
      | (refine s_is ?_; first
          | (refine s_isret ?_; first
              | exact f_r1 rfl (res_t rfl) () trivial rfl (fun w h => h.mask [false, false, true]))
          | (refine s_isw ?_; first
              | refine c_seq ?_
              | refine c_block ?_
              | refine c_region ?_
              | refine c_mixed mixed (by kernel_rfl) ?_
              | refine c_skip ?_
              | refine c_ret ?_
              | refine c_exit ?_
              | (refine s_iscond ?_; first
                  | (refine c_true rfl (by first | with_reducible rfl | ((with_reducible refine decide_eq_true ?_); first | with_reducible rfl | with_reducible assumption | omega) | (simp only [Bool.not_eq_true', decide_eq_false_iff_not]; omega) | (with_reducible assumption) | (rw [decide_eq_false] <;> (first | omega | with_reducible rfl)) | (rw [decide_eq_true] <;> (first | omega | with_reducible rfl)) | (simp; done) | (simp; omega)) ?_)
                  | (refine c_false rfl (by first | with_reducible rfl | ((with_reducible refine decide_eq_false ?_); first | with_reducible assumption | omega) | (simp only [Bool.not_eq_false', decide_eq_true_eq]; omega) | (with_reducible assumption) | (rw [decide_eq_false] <;> (first | omega | with_reducible rfl)) | (rw [decide_eq_true] <;> (first | omega | with_reducible rfl)) | (simp; done) | (simp; omega)) ?_)
                  | refine c_cond rfl (fun hc => ?_) (fun hc => ?_)
                  | refine c_condb rfl (fun hc => ?_) (fun hc => ?_)))
          | refine x_then ?_
          | refine x_then_ret ?_
          | refine x_then_exit ?_
          | refine x_block _ ?_
          | refine x_block_ret _ ?_
          | refine x_block_exit _ ?_
          | refine x_block_past (by decide) ?_
          | refine z_tailm ?_)
      | (refine z_isguard ?_; first
          | (refine z_want rfl rfl (by first | with_reducible rfl | ((with_reducible refine decide_eq_true ?_); first | with_reducible rfl | with_reducible assumption | omega) | ((with_reducible refine decide_eq_false ?_); first | with_reducible assumption | omega) | (simp only [Bool.not_eq_true', Bool.not_eq_false', decide_eq_false_iff_not, decide_eq_true_eq]; omega) | (with_reducible assumption) | (rw [decide_eq_false] <;> (first | omega | with_reducible rfl)) | (rw [decide_eq_true] <;> (first | omega | with_reducible rfl)) | (simp; done) | (simp; omega)) ?_)
          | (refine z_skip (by decide) rfl rfl (by first | with_reducible rfl | ((with_reducible refine decide_eq_true ?_); first | with_reducible rfl | with_reducible assumption | omega) | ((with_reducible refine decide_eq_false ?_); first | with_reducible assumption | omega) | (simp only [Bool.not_eq_true', Bool.not_eq_false', decide_eq_false_iff_not, decide_eq_true_eq]; omega) | (with_reducible assumption) | (rw [decide_eq_false] <;> (first | omega | with_reducible rfl)) | (rw [decide_eq_true] <;> (first | omega | with_reducible rfl)) | (simp; done) | (simp; omega)) ?_)
          | refine z_skipu (by decide) rfl rfl ?_
          | refine z_guard1 (by decide) rfl rfl (fun hc => ?_) (fun hc => ?_)
          | refine z_guard0 (by decide) rfl rfl (fun hc => ?_) (fun hc => ?_)
          | refine z_guardb (by decide) rfl rfl (fun hc => ?_) (fun hc => ?_))
      | (refine z_isnil ?_; first
          | refine z_list ?_
          | refine z_mixed ?_
          | refine z_mono0 ?_
          | refine z_mono1 (by decide) fun g => ?_
          | refine z_mono2 (by decide) (by decide) fun g g' => ?_
          | refine z_mixedx ?_
          | refine z_quiet ?_)
      | (refine z_isop ?_; first
          | refine o_boxa rfl rfl (by decide) fun g => ?_
          | refine o_alloca (e := 26) (vs := bm (fun _ => 0)) rfl (by kernel_rfl) (by decide) fun g => ?_
          | refine o_alloca (e := 24) (vs := bm (fun _ => 0)) rfl (by kernel_rfl) (by decide) fun g => ?_
          | refine o_alloca (e := 23) (vs := bm (fun _ => 0)) rfl (by kernel_rfl) (by decide) fun g => ?_
          | refine o_alloca (e := 49) (vs := rm (fun _ => false)) rfl (by kernel_rfl) (by decide) fun g => ?_
          | refine m_alloca (e := 26) (vs := bm (fun _ => 0)) (by kernel_rfl) ?_
          | (refine z_isbin ?_; first
              | refine o_eqa cmp26 rfl rfl (bm_typed _) (bm_typed _) (by decide) ?_
              | (refine z_isb .add ?_; first
                  | refine o_add rfl rfl (by omega) (by omega) (by decide) ?_
                  | refine o_addw rfl rfl (by decide) ?_)
              | (refine z_isb .sub ?_; first
                  | refine o_sub rfl rfl (by omega) (by omega) (by decide) ?_
                  | refine o_subw rfl rfl (by decide) ?_)
              | (refine z_isb .mul ?_; first
                  | refine o_mul rfl rfl (by omega) (by omega) (by decide) ?_
                  | refine o_mulw rfl rfl (by decide) ?_)
              | (refine z_isb .eql ?_; first
                  | refine o_eq rfl rfl (by decide) ?_
                  | refine o_beq tabOk rfl rfl rfl (by decide) ?_
                  | refine o_peq tabOk rfl rfl (by decide) ?_)
              | (refine z_isb .neq ?_; first
                  | refine o_ne rfl rfl (by decide) ?_
                  | refine o_bne tabOk rfl rfl rfl (by decide) ?_
                  | refine o_pne tabOk rfl rfl (by decide) ?_)
              | (refine z_isb .lss ?_; first
                  | refine o_lt rfl rfl (by decide) ?_)
              | (refine z_isb .leq ?_; first
                  | refine o_le rfl rfl (by decide) ?_)
              | (refine z_isb .gtr ?_; first
                  | refine o_gt rfl rfl (by decide) ?_)
              | (refine z_isb .geq ?_; first
                  | refine o_ge rfl rfl (by decide) ?_)
              | (refine z_isb .quo ?_; first
                  | refine o_quo rfl rfl (by omega) (by omega) (by omega) (by decide) ?_
                  | refine o_quo8 rfl rfl (by omega) (by omega) (by omega) (by decide) ?_
                  | refine o_quot rfl rfl (by omega) (by decide) ?_)
              | (refine z_isb .rem ?_; first
                  | refine o_rem rfl rfl (by omega) (by omega) (by decide) ?_
                  | refine o_remk rfl rfl (by omega) (by omega) (by decide) ?_
                  | refine o_remt rfl rfl (by omega) (by decide) ?_)
              | (refine z_isb .and ?_; first
                  | refine o_and rfl rfl (by decide) ?_)
              | (refine z_isb .or ?_; first
                  | refine o_or rfl rfl (by decide) ?_)
              | (refine z_isb .andNot ?_; first
                  | refine o_andNot rfl rfl (by decide) ?_)
              | (refine z_isb .shl ?_; first
                  | refine o_shl rfl rfl (by omega) (by decide) ?_)
              | (refine z_isb .shr ?_; first
                  | refine o_shr rfl rfl (by omega) (by decide) ?_))
          | (refine z_isload ?_; first
              | (refine z_ld1 tabOk rfl rfl ?_; first
                  | ((refine z_ldi 0 rfl rfl ?_; refine o_load tabOk rfl rfl rfl 0 rfl (by first | exact bm_at _ (by omega) | exact rm_at _ (by omega) | rfl) (by decide) ?_))
                  | ((refine z_ldi 1 rfl rfl ?_; refine o_load tabOk rfl rfl rfl 1 rfl (by first | exact bm_at _ (by omega) | exact rm_at _ (by omega) | rfl) (by decide) ?_))
                  | ((refine z_ldi 2 rfl rfl ?_; refine o_load tabOk rfl rfl rfl 2 rfl (by first | exact bm_at _ (by omega) | exact rm_at _ (by omega) | rfl) (by decide) ?_))
                  | ((refine z_ldi 3 rfl rfl ?_; refine o_load tabOk rfl rfl rfl 3 rfl (by first | exact bm_at _ (by omega) | exact rm_at _ (by omega) | rfl) (by decide) ?_))
                  | ((refine z_ldi 4 rfl rfl ?_; refine o_load tabOk rfl rfl rfl 4 rfl (by first | exact bm_at _ (by omega) | exact rm_at _ (by omega) | rfl) (by decide) ?_))
                  | ((refine z_ldi 5 rfl rfl ?_; refine o_load tabOk rfl rfl rfl 5 rfl (by first | exact bm_at _ (by omega) | exact rm_at _ (by omega) | rfl) (by decide) ?_))
                  | ((refine z_ldi 6 rfl rfl ?_; refine o_load tabOk rfl rfl rfl 6 rfl (by first | exact bm_at _ (by omega) | exact rm_at _ (by omega) | rfl) (by decide) ?_))
                  | refine o_loads tabOk (by first | assumption | exact Rds.cons _ (by assumption) | exact Rds.cons _ (Rds.cons _ (by assumption)) | exact own_rds 0 rfl | exact own_rds 1 rfl | exact own_rds 2 rfl) rfl rfl rfl (by first | exact bm_at _ (by omega) | exact rm_at _ (by omega) | rfl) (by decide) ?_)
              | (refine z_ldw tabOk rfl rfl ?_; first
                  | ((refine z_ldi 0 rfl rfl ?_; refine o_loadw tabOk rfl rfl rfl 0 rfl (by first | exact bm_len _ | exact rm_len _ | (simp only [bm_len, rm_len]) | rfl) (by decide) ?_))
                  | ((refine z_ldi 1 rfl rfl ?_; refine o_loadw tabOk rfl rfl rfl 1 rfl (by first | exact bm_len _ | exact rm_len _ | (simp only [bm_len, rm_len]) | rfl) (by decide) ?_))
                  | ((refine z_ldi 2 rfl rfl ?_; refine o_loadw tabOk rfl rfl rfl 2 rfl (by first | exact bm_len _ | exact rm_len _ | (simp only [bm_len, rm_len]) | rfl) (by decide) ?_))
                  | ((refine z_ldi 3 rfl rfl ?_; refine o_loadw tabOk rfl rfl rfl 3 rfl (by first | exact bm_len _ | exact rm_len _ | (simp only [bm_len, rm_len]) | rfl) (by decide) ?_))
                  | ((refine z_ldi 4 rfl rfl ?_; refine o_loadw tabOk rfl rfl rfl 4 rfl (by first | exact bm_len _ | exact rm_len _ | (simp only [bm_len, rm_len]) | rfl) (by decide) ?_))
                  | ((refine z_ldi 5 rfl rfl ?_; refine o_loadw tabOk rfl rfl rfl 5 rfl (by first | exact bm_len _ | exact rm_len _ | (simp only [bm_len, rm_len]) | rfl) (by decide) ?_))
                  | ((refine z_ldi 6 rfl rfl ?_; refine o_loadw tabOk rfl rfl rfl 6 rfl (by first | exact bm_len _ | exact rm_len _ | (simp only [bm_len, rm_len]) | rfl) (by decide) ?_))))
          | (refine z_isstore ?_; first
              | (refine z_stw rfl ?_; first
                  | ((refine z_sti 0 rfl rfl ?_; refine o_storeb0 rfl tabOk rfl rfl rfl (by first | exact bm_len _ | exact rm_len _ | (simp only [bm_len, rm_len]) | rfl) (by first | exact bm_one _ | exact rm_one _ | rfl) (by first | exact bm_len _ | exact rm_len _ | (simp only [bm_len, rm_len]) | rfl) ?_))
                  | ((refine z_sti 1 rfl rfl ?_; refine o_storeb1 rfl tabOk rfl rfl rfl (by first | exact bm_len _ | exact rm_len _ | (simp only [bm_len, rm_len]) | rfl) (by first | exact bm_one _ | exact rm_one _ | rfl) (by first | exact bm_len _ | exact rm_len _ | (simp only [bm_len, rm_len]) | rfl) ?_))
                  | ((refine z_sti 2 rfl rfl ?_; refine o_storeb2 rfl tabOk rfl rfl rfl (by first | exact bm_len _ | exact rm_len _ | (simp only [bm_len, rm_len]) | rfl) (by first | exact bm_one _ | exact rm_one _ | rfl) (by first | exact bm_len _ | exact rm_len _ | (simp only [bm_len, rm_len]) | rfl) ?_))
                  | ((refine z_sti 3 rfl rfl ?_; refine o_storeb3 rfl tabOk rfl rfl rfl (by first | exact bm_len _ | exact rm_len _ | (simp only [bm_len, rm_len]) | rfl) (by first | exact bm_one _ | exact rm_one _ | rfl) (by first | exact bm_len _ | exact rm_len _ | (simp only [bm_len, rm_len]) | rfl) ?_))
                  | ((refine z_sti 4 rfl rfl ?_; refine o_storeb4 rfl tabOk rfl rfl rfl (by first | exact bm_len _ | exact rm_len _ | (simp only [bm_len, rm_len]) | rfl) (by first | exact bm_one _ | exact rm_one _ | rfl) (by first | exact bm_len _ | exact rm_len _ | (simp only [bm_len, rm_len]) | rfl) ?_))
                  | ((refine z_sti 5 rfl rfl ?_; refine o_storeb5 rfl tabOk rfl rfl rfl (by first | exact bm_len _ | exact rm_len _ | (simp only [bm_len, rm_len]) | rfl) (by first | exact bm_one _ | exact rm_one _ | rfl) (by first | exact bm_len _ | exact rm_len _ | (simp only [bm_len, rm_len]) | rfl) ?_))
                  | ((refine z_sti 6 rfl rfl ?_; refine o_storeb6 rfl tabOk rfl rfl rfl (by first | exact bm_len _ | exact rm_len _ | (simp only [bm_len, rm_len]) | rfl) (by first | exact bm_one _ | exact rm_one _ | rfl) (by first | exact bm_len _ | exact rm_len _ | (simp only [bm_len, rm_len]) | rfl) ?_)))
              | (refine z_st1 rfl rfl ?_; first
                  | refine o_store rfl tabOk rfl rfl rfl rfl rfl (by first | exact bm_at _ (by omega) | exact rm_at _ (by omega) | rfl) (by first | exact bm_set _ _ _ | exact rm_set _ _ _ | rfl) ?_
                  | ((refine z_sti 1 rfl rfl ?_; refine o_store1 rfl tabOk rfl rfl rfl rfl rfl (by first | exact bm_at _ (by omega) | exact rm_at _ (by omega) | rfl) (by first | exact bm_set _ _ _ | exact rm_set _ _ _ | rfl) ?_))
                  | ((refine z_sti 2 rfl rfl ?_; refine o_store2 rfl tabOk rfl rfl rfl rfl rfl (by first | exact bm_at _ (by omega) | exact rm_at _ (by omega) | rfl) (by first | exact bm_set _ _ _ | exact rm_set _ _ _ | rfl) ?_))
                  | ((refine z_sti 3 rfl rfl ?_; refine o_store3 rfl tabOk rfl rfl rfl rfl rfl (by first | exact bm_at _ (by omega) | exact rm_at _ (by omega) | rfl) (by first | exact bm_set _ _ _ | exact rm_set _ _ _ | rfl) ?_))
                  | ((refine z_sti 4 rfl rfl ?_; refine o_store4 rfl tabOk rfl rfl rfl rfl rfl (by first | exact bm_at _ (by omega) | exact rm_at _ (by omega) | rfl) (by first | exact bm_set _ _ _ | exact rm_set _ _ _ | rfl) ?_))
                  | ((refine z_sti 5 rfl rfl ?_; refine o_store5 rfl tabOk rfl rfl rfl rfl rfl (by first | exact bm_at _ (by omega) | exact rm_at _ (by omega) | rfl) (by first | exact bm_set _ _ _ | exact rm_set _ _ _ | rfl) ?_))
                  | ((refine z_sti 6 rfl rfl ?_; refine o_store6 rfl tabOk rfl rfl rfl rfl rfl (by first | exact bm_at _ (by omega) | exact rm_at _ (by omega) | rfl) (by first | exact bm_set _ _ _ | exact rm_set _ _ _ | rfl) ?_))))
          | (refine z_isfield ?_; first
              | refine o_fv tabOk rfl rfl rfl rfl rfl (by first | exact bm_at _ (by omega) | exact rm_at _ (by omega) | rfl) (by decide) ?_
              | refine o_fvw tabOk rfl rfl rfl rfl rfl (by first | exact bm_len _ | exact rm_len _ | (simp only [bm_len, rm_len]) | rfl) (by decide) ?_)
          | (refine z_isindex ?_; first
              | refine o_ixv tabOk rfl rfl rfl rfl rfl (by omega) (by omega) (by first | exact bm_at _ (by omega) | exact rm_at _ (by omega) | rfl) (by decide) ?_)
          | (refine z_ismakes ?_; first
              | refine o_make1 rfl tabOk zeroOk rfl rfl rfl rfl rfl (by decide) fun g => ?_)
          | (refine z_iscall ?_; first
              | refine o_call Try.func13 rfl rfl rfl (ofb_c xs _ _ [old W] hrd hx) (List.Perm.refl _) (by decide) fun _ _ => ?_
              | ((refine z_iscallf 44 ?_; refine o_fn rfl Try.func44 rfl rfl rfl (in_fn _) (by decide) ?_))
              | ((refine z_iscallf 16 ?_; refine o_fn rfl Try.func16 rfl rfl rfl (has_fn _ (by assumption) _) (by decide) ?_))
              | ((refine z_iscallf 17 ?_; refine o_fn rfl Try.func17 rfl rfl rfl (take_fn _ (by assumption) _) (by decide) ?_))
              | ((refine z_iscallf 25 ?_; refine o_fn rfl Try.func25 rfl rfl rfl (free_fn _ (by assumption) _) (by decide) ?_))
              | ((refine z_iscallf 12 ?_; refine o_fn rfl Try.func12 rfl rfl rfl (of_fn _) (by decide) ?_))
              | ((refine z_iscallf 24 ?_; refine o_fn rfl Try.func24 rfl rfl rfl (block_fn _) (by decide) ?_))
              | ((refine z_iscallf 14 ?_; refine o_fn rfl Try.func14 rfl rfl rfl (count_fn _ (by assumption) _ _) (by decide) ?_))
              | ((refine z_iscallf 18 ?_; refine o_fn rfl Try.func18 rfl rfl rfl (awake24) (by decide) ?_)))
          | (refine z_ispick ?_; first
              | (refine o_pick1 rfl (by first | with_reducible rfl | ((with_reducible refine decide_eq_true ?_); first | with_reducible rfl | with_reducible assumption | omega) | (simp only [Bool.not_eq_true', decide_eq_false_iff_not]; omega) | (with_reducible assumption) | (rw [decide_eq_false] <;> (first | omega | with_reducible rfl)) | (rw [decide_eq_true] <;> (first | omega | with_reducible rfl)) | (simp; done) | (simp; omega)) rfl (by decide) ?_)
              | (refine o_pick0 rfl (by first | with_reducible rfl | ((with_reducible refine decide_eq_false ?_); first | with_reducible assumption | omega) | (simp only [Bool.not_eq_false', decide_eq_true_eq]; omega) | (with_reducible assumption) | (rw [decide_eq_false] <;> (first | omega | with_reducible rfl)) | (rw [decide_eq_true] <;> (first | omega | with_reducible rfl)) | (simp; done) | (simp; omega)) rfl (by decide) ?_))
          | (refine z_isix ?_; first
              | refine o_index0 tabOk rfl rfl rfl rfl (by omega) (by omega) (by decide) ?_
              | refine o_index1 tabOk rfl rfl rfl rfl (by omega) (by omega) (by decide) ?_
              | refine o_indexsk tabOk rfl rfl rfl rfl (by omega) (by omega) (by decide) ?_
              | refine o_indexs1 tabOk (by first | assumption) rfl rfl rfl rfl (by omega) (by omega) (by decide) ?_)
          | (refine z_isslice ?_; first
              | refine o_slice tabOk rfl rfl rfl rfl rfl (by omega) (by omega) (by omega) (by decide) ?_
              | refine o_slicel tabOk rfl rfl rfl rfl (by omega) (by omega) (by omega) (by decide) ?_
              | refine o_sliceh tabOk rfl rfl rfl rfl (by omega) (by omega) (by decide) ?_
              | refine o_slp tabOk rfl rfl rfl rfl rfl (by omega) (by omega) (by omega) (by omega) (by decide) ?_
              | refine o_slpl tabOk rfl rfl rfl rfl (by omega) (by omega) (by decide) ?_
              | refine o_slp0 tabOk rfl rfl rfl rfl (by decide) ?_)
          | (refine z_isbi ?_; first
              | refine o_len tabOk rfl rfl (by decide) ?_
              | refine o_min rfl rfl (by decide) ?_
              | refine o_max rfl rfl (by decide) ?_
              | refine o_append rfl tabOk zeroOk rfl rfl rfl rfl rfl rfl (by first | assumption | exact Rds.cons _ (by assumption) | exact Rds.cons _ (Rds.cons _ (by assumption)) | exact own_rds 0 rfl | exact own_rds 1 rfl | exact own_rds 2 rfl) (by first | rfl | simp) (by first | rfl | simp) (by omega) (by omega) (by decide) fun A' c' => ?_
              | (refine z_front rfl 1 rfl ?_; refine o_append rfl tabOk zeroOk rfl rfl rfl rfl rfl rfl (by first | assumption | exact Rds.cons _ (by assumption) | exact Rds.cons _ (Rds.cons _ (by assumption)) | exact own_rds 0 rfl | exact own_rds 1 rfl | exact own_rds 2 rfl) (by first | rfl | simp) (by first | rfl | simp) (by omega) (by omega) (by decide) fun A' c' => ?_)
              | (refine z_front rfl 2 rfl ?_; refine o_append rfl tabOk zeroOk rfl rfl rfl rfl rfl rfl (by first | assumption | exact Rds.cons _ (by assumption) | exact Rds.cons _ (Rds.cons _ (by assumption)) | exact own_rds 0 rfl | exact own_rds 1 rfl | exact own_rds 2 rfl) (by first | rfl | simp) (by first | rfl | simp) (by omega) (by omega) (by decide) fun A' c' => ?_)
              | (refine z_front rfl 3 rfl ?_; refine o_append rfl tabOk zeroOk rfl rfl rfl rfl rfl rfl (by first | assumption | exact Rds.cons _ (by assumption) | exact Rds.cons _ (Rds.cons _ (by assumption)) | exact own_rds 0 rfl | exact own_rds 1 rfl | exact own_rds 2 rfl) (by first | rfl | simp) (by first | rfl | simp) (by omega) (by omega) (by decide) fun A' c' => ?_)
              | (refine z_front rfl 4 rfl ?_; refine o_append rfl tabOk zeroOk rfl rfl rfl rfl rfl rfl (by first | assumption | exact Rds.cons _ (by assumption) | exact Rds.cons _ (Rds.cons _ (by assumption)) | exact own_rds 0 rfl | exact own_rds 1 rfl | exact own_rds 2 rfl) (by first | rfl | simp) (by first | rfl | simp) (by omega) (by omega) (by decide) fun A' c' => ?_)
              | (refine z_front rfl 5 rfl ?_; refine o_append rfl tabOk zeroOk rfl rfl rfl rfl rfl rfl (by first | assumption | exact Rds.cons _ (by assumption) | exact Rds.cons _ (Rds.cons _ (by assumption)) | exact own_rds 0 rfl | exact own_rds 1 rfl | exact own_rds 2 rfl) (by first | rfl | simp) (by first | rfl | simp) (by omega) (by omega) (by decide) fun A' c' => ?_))
          | refine o_move rfl (by decide) ?_
          | refine o_assign rfl (by decide) ?_
          | refine o_nil rfl (by decide) ?_
          | refine o_extract rfl rfl (by decide) ?_
          | refine o_not rfl (by decide) ?_
          | refine o_field0 tabOk rfl rfl rfl rfl rfl (by decide) ?_
          | refine o_field tabOk rfl rfl rfl rfl rfl (by decide) ?_
          | refine o_conv tabOk rfl rfl rfl (by decide) ?_))
end Go.Proofs.Ytjejnlfbonpfaaa
