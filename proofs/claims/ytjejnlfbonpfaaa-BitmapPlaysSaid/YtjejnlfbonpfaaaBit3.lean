/-
Walks over package bitmap and the document's bitmap, more: the document's map of a block, its first, its count; the chapter's example.
-/
import Derived.Test.YtjejnlfbonpfaaaBit2
namespace Go.Proofs.Ytjejnlfbonpfaaa
set_option linter.unusedVariables false
set_option linter.unusedSimpArgs false
open Eng
attribute [local irreducible] Eng.Z Eng.S bm rm hasB tb takeB
theorem part_set (x : Nat → Bool) (i : Nat) : upd (fun j => decide (j < i) && x j) i (x i) = fun j => decide (j < i + 1) && x j := by
  funext j
  unfold upd
  by_cases h : j = i
  · subst h; simp
  · rw [if_neg h]
    show (decide (j < i) && x j) = _
    by_cases h' : j < i
    · simp [h', show j < i + 1 by omega]
    · simp [h', show ¬ j < i + 1 by omega]
theorem part_end (x : Nat → Bool) {i : Nat} (h : 512 ≤ i) : rm (fun j => decide (j < i) && x j) = rm x := rm_congr fun j hj => by simp [show j < i by omega]
theorem part_0 (x : Nat → Bool) : (fun j => decide (j < 0) && x j) = fun _ => false := by funext j; simp
theorem div_step (x : Int) (h : 0 ≤ x) (k : Nat) : x / 2 ^ k / 2 = x / 2 ^ (k + 1) := by
  rw [Int.pow_succ, Int.ediv_ediv_of_nonneg (Int.le_of_lt (Int.pow_pos (by omega)))]
theorem div_bd {x : Int} (h0 : 0 ≤ x) (h1 : x ≤ 255) (k : Nat) : 0 ≤ x / 2 ^ k ∧ x / 2 ^ k ≤ 255 := by
  have hp : (0 : Int) < 2 ^ k := Int.pow_pos (by omega)
  exact ⟨Int.ediv_nonneg h0 (Int.le_of_lt hp), Int.le_trans (Int.ediv_le_self _ h0) h1⟩
theorem div_bit {r : Nat → Int} (hr : By r) (i : Nat) : decide (r (i / 8) / 2 ^ (i % 8) % 2 = 1) = tb r i := by
  unfold tb
  rw [Nat.testBit_eq_decide_div_mod_eq]
  have h := (hr (i / 8)).1
  have e : r (i / 8) = ((r (i / 8)).toNat : Int) := by omega
  rw [e, Int.toNat_natCast]
  simp only [decide_eq_decide]
  constructor
  · intro h; exact_mod_cast h
  · intro h; exact_mod_cast h
theorem rof_fn (r : Nat → Int) (hr : By r) : Pf Try.prog 23 [.agg (bm r).toArray] (.agg (rm (tb r)).toArray) := by
  intro w hw
  refine f_enter Try.func23 rfl Try.ntmps23 rfl hw ?_
  repeat' (first
    | (refine s_is ?_; first
        | (refine s_isagain ?_; first
            | exact c_again (k + 1) (by omega) (by omega) ⟨rfl, rfl, rfl, rfl, sli_eq (div_step _ hb.1 k), rfl, trivial⟩ (fun w h => h)
            | ((obtain rfl : k = i % 8 := (by omega); refine c_again (i + 1) (by omega) (by omega) ⟨rfl, rfl, rfl, rfl, trivial⟩ (fun w h => ?_); rw [← part_set, ← div_bit hr i]; exact h)))
        | (refine s_isret ?_; first
            | ((rw [← part_end (tb r) (show 512 ≤ i by omega)]; exact p_r1 rfl (res_c tabOk rfl rfl rfl 1 rfl (rm_len _)))))
        | (refine s_isw ?_; first
            | (refine s_isloop ?_; first
                | ((rename_i g1 g2; refine c_loop (X := Nat) (fun i => i ≤ 512) (fun i => [(1, .pointer (some ⟨g1, 0, none⟩)), (2, .pointer (some ⟨g2, 0, none⟩)), (3, .pointer (some ⟨g, 0, none⟩)), (4, .int .i64 i)]) (fun i => [cells g 49 (rm (fun j => decide (j < i) && tb r j)), cells g2 49 (rm fun _ => false), cells g1 23 (bm r)]) (fun i => 512 - i) 0 (Nat.zero_le _) ⟨rfl, rfl, rfl, rfl, trivial⟩ (fun w h => by rw [part_0]; exact h) (fun i hi => ?_); have hb := hr (i / 8)))
                | ((refine c_loop (X := Nat) (fun k => k ≤ i % 8) (fun k => [(1, .pointer (some ⟨g1, 0, none⟩)), (2, .pointer (some ⟨g2, 0, none⟩)), (3, .pointer (some ⟨g, 0, none⟩)), (4, .int .i64 i), (5, .int .u8 (r (i / 8) / 2 ^ k)), (6, .int .i64 k)]) (fun k => [cells g 49 (rm (fun j => decide (j < i) && tb r j)), cells g2 49 (rm fun _ => false), cells g1 23 (bm r)]) (fun k => 8 - k) 0 (Nat.zero_le _) ⟨rfl, rfl, rfl, rfl, sli_eq (by rw [Int.pow_zero, Int.ediv_one, show ((i : Int) / 8).toNat = i / 8 by omega]), rfl, trivial⟩ (fun w h => h) (fun k hk => ?_); have hd := div_bd hb.1 hb.2 k)))
            | refine c_seq ?_
            | refine c_block ?_
            | refine c_region ?_
            | refine c_mixed mixed (by kernel_rfl) ?_
            | refine c_skip ?_
            | refine c_ret ?_
            | refine c_exit ?_
            | (refine s_iscond ?_; first
                | (refine c_true rfl (by first | with_reducible rfl | ((with_reducible refine decide_eq_true ?_); first | with_reducible rfl | with_reducible assumption | omega) | (simp only [Bool.not_eq_true', decide_eq_false_iff_not]; omega) | (with_reducible assumption) | (rw [decide_eq_false] <;> (first | omega | with_reducible rfl)) | (rw [decide_eq_true] <;> (first | omega | with_reducible rfl)) | (simp; done) | (simp; omega)) ?_)
                | (refine c_false rfl (by first | with_reducible rfl | ((with_reducible refine decide_eq_false ?_); first | with_reducible assumption | omega) | (simp only [Bool.not_eq_false', decide_eq_true_eq]; omega) | (with_reducible assumption) | (rw [decide_eq_false] <;> (first | omega | with_reducible rfl)) | (rw [decide_eq_true] <;> (first | omega | with_reducible rfl)) | (simp; done) | (simp; omega)) ?_)
                | refine c_cond rfl (fun hc => ?_) (fun hc => ?_)
                | refine c_condb rfl (fun hc => ?_) (fun hc => ?_)))
        | refine x_then ?_
        | refine x_then_ret ?_
        | refine x_then_exit ?_
        | refine x_block _ ?_
        | refine x_block_ret _ ?_
        | refine x_block_exit _ ?_
        | refine x_block_past (by decide) ?_
        | refine z_tailm ?_)
    | (refine z_isguard ?_; first
        | (refine z_want rfl rfl (by first | with_reducible rfl | ((with_reducible refine decide_eq_true ?_); first | with_reducible rfl | with_reducible assumption | omega) | ((with_reducible refine decide_eq_false ?_); first | with_reducible assumption | omega) | (simp only [Bool.not_eq_true', Bool.not_eq_false', decide_eq_false_iff_not, decide_eq_true_eq]; omega) | (with_reducible assumption) | (rw [decide_eq_false] <;> (first | omega | with_reducible rfl)) | (rw [decide_eq_true] <;> (first | omega | with_reducible rfl)) | (simp; done) | (simp; omega)) ?_)
        | (refine z_skip (by decide) rfl rfl (by first | with_reducible rfl | ((with_reducible refine decide_eq_true ?_); first | with_reducible rfl | with_reducible assumption | omega) | ((with_reducible refine decide_eq_false ?_); first | with_reducible assumption | omega) | (simp only [Bool.not_eq_true', Bool.not_eq_false', decide_eq_false_iff_not, decide_eq_true_eq]; omega) | (with_reducible assumption) | (rw [decide_eq_false] <;> (first | omega | with_reducible rfl)) | (rw [decide_eq_true] <;> (first | omega | with_reducible rfl)) | (simp; done) | (simp; omega)) ?_)
        | refine z_skipu (by decide) rfl rfl ?_
        | refine z_guard1 (by decide) rfl rfl (fun hc => ?_) (fun hc => ?_)
        | refine z_guard0 (by decide) rfl rfl (fun hc => ?_) (fun hc => ?_)
        | refine z_guardb (by decide) rfl rfl (fun hc => ?_) (fun hc => ?_))
    | (refine z_isnil ?_; first
        | refine z_list ?_
        | refine z_mixed ?_
        | refine z_mono0 ?_
        | refine z_mono1 (by decide) fun g => ?_
        | refine z_mono2 (by decide) (by decide) fun g g' => ?_
        | refine z_mixedx ?_
        | refine z_quiet ?_)
    | (refine z_isop ?_; first
        | refine o_build (v := .agg (rm (fun _ => false)).toArray) rfl (fun _ => by kernel_rfl) (by decide) ?_
        | refine o_boxa rfl rfl (by decide) fun g => ?_
        | refine o_alloca (e := 26) (vs := bm (fun _ => 0)) rfl (by kernel_rfl) (by decide) fun g => ?_
        | refine o_alloca (e := 24) (vs := bm (fun _ => 0)) rfl (by kernel_rfl) (by decide) fun g => ?_
        | refine o_alloca (e := 23) (vs := bm (fun _ => 0)) rfl (by kernel_rfl) (by decide) fun g => ?_
        | refine o_alloca (e := 49) (vs := rm (fun _ => false)) rfl (by kernel_rfl) (by decide) fun g => ?_
        | (refine z_isbin ?_; first
            | (refine z_isb .add ?_; first
                | refine o_add rfl rfl (by omega) (by omega) (by decide) ?_
                | refine o_addw rfl rfl (by decide) ?_)
            | (refine z_isb .sub ?_; first
                | refine o_sub rfl rfl (by omega) (by omega) (by decide) ?_
                | refine o_subw rfl rfl (by decide) ?_)
            | (refine z_isb .mul ?_; first
                | refine o_mul rfl rfl (by omega) (by omega) (by decide) ?_
                | refine o_mulw rfl rfl (by decide) ?_)
            | (refine z_isb .eql ?_; first
                | refine o_eq rfl rfl (by decide) ?_
                | refine o_beq tabOk rfl rfl rfl (by decide) ?_
                | refine o_peq tabOk rfl rfl (by decide) ?_)
            | (refine z_isb .neq ?_; first
                | refine o_ne rfl rfl (by decide) ?_
                | refine o_bne tabOk rfl rfl rfl (by decide) ?_
                | refine o_pne tabOk rfl rfl (by decide) ?_)
            | (refine z_isb .lss ?_; first
                | refine o_lt rfl rfl (by decide) ?_)
            | (refine z_isb .leq ?_; first
                | refine o_le rfl rfl (by decide) ?_)
            | (refine z_isb .gtr ?_; first
                | refine o_gt rfl rfl (by decide) ?_)
            | (refine z_isb .geq ?_; first
                | refine o_ge rfl rfl (by decide) ?_)
            | (refine z_isb .quo ?_; first
                | refine o_quo rfl rfl (by omega) (by omega) (by omega) (by decide) ?_
                | refine o_quo8 rfl rfl (by omega) (by omega) (by omega) (by decide) ?_
                | refine o_quot rfl rfl (by omega) (by decide) ?_)
            | (refine z_isb .rem ?_; first
                | refine o_rem rfl rfl (by omega) (by omega) (by decide) ?_
                | refine o_remk rfl rfl (by omega) (by omega) (by decide) ?_
                | refine o_remt rfl rfl (by omega) (by decide) ?_)
            | (refine z_isb .and ?_; first
                | refine o_and rfl rfl (by decide) ?_)
            | (refine z_isb .or ?_; first
                | refine o_or rfl rfl (by decide) ?_)
            | (refine z_isb .andNot ?_; first
                | refine o_andNot rfl rfl (by decide) ?_)
            | (refine z_isb .shl ?_; first
                | refine o_shl rfl rfl (by omega) (by decide) ?_)
            | (refine z_isb .shr ?_; first
                | refine o_shr rfl rfl (by omega) (by decide) ?_))
        | (refine z_isload ?_; first
            | (refine z_ld1 tabOk rfl rfl ?_; first
                | ((refine z_ldi 0 rfl rfl ?_; refine o_load tabOk rfl rfl rfl 0 rfl (by first | exact bm_at _ (by omega) | exact rm_at _ (by omega) | rfl) (by decide) ?_))
                | ((refine z_ldi 1 rfl rfl ?_; refine o_load tabOk rfl rfl rfl 1 rfl (by first | exact bm_at _ (by omega) | exact rm_at _ (by omega) | rfl) (by decide) ?_))
                | ((refine z_ldi 2 rfl rfl ?_; refine o_load tabOk rfl rfl rfl 2 rfl (by first | exact bm_at _ (by omega) | exact rm_at _ (by omega) | rfl) (by decide) ?_))
                | ((refine z_ldi 3 rfl rfl ?_; refine o_load tabOk rfl rfl rfl 3 rfl (by first | exact bm_at _ (by omega) | exact rm_at _ (by omega) | rfl) (by decide) ?_))
                | ((refine z_ldi 4 rfl rfl ?_; refine o_load tabOk rfl rfl rfl 4 rfl (by first | exact bm_at _ (by omega) | exact rm_at _ (by omega) | rfl) (by decide) ?_))
                | ((refine z_ldi 5 rfl rfl ?_; refine o_load tabOk rfl rfl rfl 5 rfl (by first | exact bm_at _ (by omega) | exact rm_at _ (by omega) | rfl) (by decide) ?_))
                | ((refine z_ldi 6 rfl rfl ?_; refine o_load tabOk rfl rfl rfl 6 rfl (by first | exact bm_at _ (by omega) | exact rm_at _ (by omega) | rfl) (by decide) ?_))
                | refine o_loads tabOk (by first | assumption | exact Rds.cons _ (by assumption) | exact Rds.cons _ (Rds.cons _ (by assumption)) | exact own_rds 0 rfl | exact own_rds 1 rfl | exact own_rds 2 rfl) rfl rfl rfl (by first | exact bm_at _ (by omega) | exact rm_at _ (by omega) | rfl) (by decide) ?_)
            | (refine z_ldw tabOk rfl rfl ?_; first
                | ((refine z_ldi 0 rfl rfl ?_; refine o_loadw tabOk rfl rfl rfl 0 rfl (by first | exact bm_len _ | exact rm_len _ | (simp only [bm_len, rm_len]) | rfl) (by decide) ?_))
                | ((refine z_ldi 1 rfl rfl ?_; refine o_loadw tabOk rfl rfl rfl 1 rfl (by first | exact bm_len _ | exact rm_len _ | (simp only [bm_len, rm_len]) | rfl) (by decide) ?_))
                | ((refine z_ldi 2 rfl rfl ?_; refine o_loadw tabOk rfl rfl rfl 2 rfl (by first | exact bm_len _ | exact rm_len _ | (simp only [bm_len, rm_len]) | rfl) (by decide) ?_))
                | ((refine z_ldi 3 rfl rfl ?_; refine o_loadw tabOk rfl rfl rfl 3 rfl (by first | exact bm_len _ | exact rm_len _ | (simp only [bm_len, rm_len]) | rfl) (by decide) ?_))
                | ((refine z_ldi 4 rfl rfl ?_; refine o_loadw tabOk rfl rfl rfl 4 rfl (by first | exact bm_len _ | exact rm_len _ | (simp only [bm_len, rm_len]) | rfl) (by decide) ?_))
                | ((refine z_ldi 5 rfl rfl ?_; refine o_loadw tabOk rfl rfl rfl 5 rfl (by first | exact bm_len _ | exact rm_len _ | (simp only [bm_len, rm_len]) | rfl) (by decide) ?_))
                | ((refine z_ldi 6 rfl rfl ?_; refine o_loadw tabOk rfl rfl rfl 6 rfl (by first | exact bm_len _ | exact rm_len _ | (simp only [bm_len, rm_len]) | rfl) (by decide) ?_))))
        | (refine z_isstore ?_; first
            | (refine z_stw rfl ?_; first
                | ((refine z_sti 0 rfl rfl ?_; refine o_storeb0 rfl tabOk rfl rfl rfl (by first | exact bm_len _ | exact rm_len _ | (simp only [bm_len, rm_len]) | rfl) (by first | exact bm_one _ | exact rm_one _ | rfl) (by first | exact bm_len _ | exact rm_len _ | (simp only [bm_len, rm_len]) | rfl) ?_))
                | ((refine z_sti 1 rfl rfl ?_; refine o_storeb1 rfl tabOk rfl rfl rfl (by first | exact bm_len _ | exact rm_len _ | (simp only [bm_len, rm_len]) | rfl) (by first | exact bm_one _ | exact rm_one _ | rfl) (by first | exact bm_len _ | exact rm_len _ | (simp only [bm_len, rm_len]) | rfl) ?_))
                | ((refine z_sti 2 rfl rfl ?_; refine o_storeb2 rfl tabOk rfl rfl rfl (by first | exact bm_len _ | exact rm_len _ | (simp only [bm_len, rm_len]) | rfl) (by first | exact bm_one _ | exact rm_one _ | rfl) (by first | exact bm_len _ | exact rm_len _ | (simp only [bm_len, rm_len]) | rfl) ?_))
                | ((refine z_sti 3 rfl rfl ?_; refine o_storeb3 rfl tabOk rfl rfl rfl (by first | exact bm_len _ | exact rm_len _ | (simp only [bm_len, rm_len]) | rfl) (by first | exact bm_one _ | exact rm_one _ | rfl) (by first | exact bm_len _ | exact rm_len _ | (simp only [bm_len, rm_len]) | rfl) ?_))
                | ((refine z_sti 4 rfl rfl ?_; refine o_storeb4 rfl tabOk rfl rfl rfl (by first | exact bm_len _ | exact rm_len _ | (simp only [bm_len, rm_len]) | rfl) (by first | exact bm_one _ | exact rm_one _ | rfl) (by first | exact bm_len _ | exact rm_len _ | (simp only [bm_len, rm_len]) | rfl) ?_))
                | ((refine z_sti 5 rfl rfl ?_; refine o_storeb5 rfl tabOk rfl rfl rfl (by first | exact bm_len _ | exact rm_len _ | (simp only [bm_len, rm_len]) | rfl) (by first | exact bm_one _ | exact rm_one _ | rfl) (by first | exact bm_len _ | exact rm_len _ | (simp only [bm_len, rm_len]) | rfl) ?_))
                | ((refine z_sti 6 rfl rfl ?_; refine o_storeb6 rfl tabOk rfl rfl rfl (by first | exact bm_len _ | exact rm_len _ | (simp only [bm_len, rm_len]) | rfl) (by first | exact bm_one _ | exact rm_one _ | rfl) (by first | exact bm_len _ | exact rm_len _ | (simp only [bm_len, rm_len]) | rfl) ?_)))
            | (refine z_st1 rfl rfl ?_; first
                | refine o_store rfl tabOk rfl rfl rfl rfl rfl (by first | exact bm_at _ (by omega) | exact rm_at _ (by omega) | rfl) (by first | exact bm_set _ _ _ | exact rm_set _ _ _ | rfl) ?_
                | ((refine z_sti 1 rfl rfl ?_; refine o_store1 rfl tabOk rfl rfl rfl rfl rfl (by first | exact bm_at _ (by omega) | exact rm_at _ (by omega) | rfl) (by first | exact bm_set _ _ _ | exact rm_set _ _ _ | rfl) ?_))
                | ((refine z_sti 2 rfl rfl ?_; refine o_store2 rfl tabOk rfl rfl rfl rfl rfl (by first | exact bm_at _ (by omega) | exact rm_at _ (by omega) | rfl) (by first | exact bm_set _ _ _ | exact rm_set _ _ _ | rfl) ?_))
                | ((refine z_sti 3 rfl rfl ?_; refine o_store3 rfl tabOk rfl rfl rfl rfl rfl (by first | exact bm_at _ (by omega) | exact rm_at _ (by omega) | rfl) (by first | exact bm_set _ _ _ | exact rm_set _ _ _ | rfl) ?_))
                | ((refine z_sti 4 rfl rfl ?_; refine o_store4 rfl tabOk rfl rfl rfl rfl rfl (by first | exact bm_at _ (by omega) | exact rm_at _ (by omega) | rfl) (by first | exact bm_set _ _ _ | exact rm_set _ _ _ | rfl) ?_))
                | ((refine z_sti 5 rfl rfl ?_; refine o_store5 rfl tabOk rfl rfl rfl rfl rfl (by first | exact bm_at _ (by omega) | exact rm_at _ (by omega) | rfl) (by first | exact bm_set _ _ _ | exact rm_set _ _ _ | rfl) ?_))
                | ((refine z_sti 6 rfl rfl ?_; refine o_store6 rfl tabOk rfl rfl rfl rfl rfl (by first | exact bm_at _ (by omega) | exact rm_at _ (by omega) | rfl) (by first | exact bm_set _ _ _ | exact rm_set _ _ _ | rfl) ?_))))
        | (refine z_isfield ?_; first
            | refine o_fv tabOk rfl rfl rfl rfl rfl (by first | exact bm_at _ (by omega) | exact rm_at _ (by omega) | rfl) (by decide) ?_
            | refine o_fvw tabOk rfl rfl rfl rfl rfl (by first | exact bm_len _ | exact rm_len _ | (simp only [bm_len, rm_len]) | rfl) (by decide) ?_)
        | (refine z_isindex ?_; first
            | refine o_ixv tabOk rfl rfl rfl rfl rfl (by omega) (by omega) (by first | exact bm_at _ (by omega) | exact rm_at _ (by omega) | rfl) (by decide) ?_)
        | (refine z_ismakes ?_; first
            | refine o_make1 rfl tabOk zeroOk rfl rfl rfl rfl rfl (by decide) fun g => ?_)
        | (refine z_iscall ?_; first
            | ((refine z_iscallf 44 ?_; refine o_fn rfl Try.func44 rfl rfl rfl (in_fn _) (by decide) ?_))
            | ((refine z_iscallf 16 ?_; refine o_fn rfl Try.func16 rfl rfl rfl (has_fn _ (by assumption) _) (by decide) ?_))
            | ((refine z_iscallf 17 ?_; refine o_fn rfl Try.func17 rfl rfl rfl (take_fn _ (by assumption) _) (by decide) ?_))
            | ((refine z_iscallf 25 ?_; refine o_fn rfl Try.func25 rfl rfl rfl (free_fn _ (by assumption) _) (by decide) ?_))
            | ((refine z_iscallf 12 ?_; refine o_fn rfl Try.func12 rfl rfl rfl (of_fn _) (by decide) ?_))
            | ((refine z_iscallf 24 ?_; refine o_fn rfl Try.func24 rfl rfl rfl (block_fn _) (by decide) ?_))
            | ((refine z_iscallf 43 ?_; refine o_fn rfl Try.func43 rfl rfl rfl (ones_fn _ (hr _).1 (hr _).2) (by decide) ?_))
            | ((refine z_iscallf 15 ?_; refine o_fn rfl Try.func15 rfl rfl rfl (first_fn _ (by assumption) _ _) (by decide) ?_))
            | ((refine z_iscallf 14 ?_; refine o_fn rfl Try.func14 rfl rfl rfl (count_fn _ (by assumption) _ _) (by decide) ?_)))
        | (refine z_ispick ?_; first
            | (refine o_pick1 rfl (by first | with_reducible rfl | ((with_reducible refine decide_eq_true ?_); first | with_reducible rfl | with_reducible assumption | omega) | (simp only [Bool.not_eq_true', decide_eq_false_iff_not]; omega) | (with_reducible assumption) | (rw [decide_eq_false] <;> (first | omega | with_reducible rfl)) | (rw [decide_eq_true] <;> (first | omega | with_reducible rfl)) | (simp; done) | (simp; omega)) rfl (by decide) ?_)
            | (refine o_pick0 rfl (by first | with_reducible rfl | ((with_reducible refine decide_eq_false ?_); first | with_reducible assumption | omega) | (simp only [Bool.not_eq_false', decide_eq_true_eq]; omega) | (with_reducible assumption) | (rw [decide_eq_false] <;> (first | omega | with_reducible rfl)) | (rw [decide_eq_true] <;> (first | omega | with_reducible rfl)) | (simp; done) | (simp; omega)) rfl (by decide) ?_))
        | (refine z_isix ?_; first
            | refine o_index0 tabOk rfl rfl rfl rfl (by omega) (by omega) (by decide) ?_
            | refine o_index1 tabOk rfl rfl rfl rfl (by omega) (by omega) (by decide) ?_
            | refine o_indexsk tabOk rfl rfl rfl rfl (by omega) (by omega) (by decide) ?_
            | refine o_indexs1 tabOk (by first | assumption) rfl rfl rfl rfl (by omega) (by omega) (by decide) ?_)
        | (refine z_isslice ?_; first
            | refine o_slice tabOk rfl rfl rfl rfl rfl (by omega) (by omega) (by omega) (by decide) ?_
            | refine o_slicel tabOk rfl rfl rfl rfl (by omega) (by omega) (by omega) (by decide) ?_
            | refine o_sliceh tabOk rfl rfl rfl rfl (by omega) (by omega) (by decide) ?_
            | refine o_slp tabOk rfl rfl rfl rfl rfl (by omega) (by omega) (by omega) (by omega) (by decide) ?_
            | refine o_slpl tabOk rfl rfl rfl rfl (by omega) (by omega) (by decide) ?_
            | refine o_slp0 tabOk rfl rfl rfl rfl (by decide) ?_)
        | (refine z_isbi ?_; first
            | refine o_len tabOk rfl rfl (by decide) ?_
            | refine o_min rfl rfl (by decide) ?_
            | refine o_max rfl rfl (by decide) ?_
            | refine o_append rfl tabOk zeroOk rfl rfl rfl rfl rfl rfl (by first | assumption | exact Rds.cons _ (by assumption) | exact Rds.cons _ (Rds.cons _ (by assumption)) | exact own_rds 0 rfl | exact own_rds 1 rfl | exact own_rds 2 rfl) (by first | rfl | simp) (by first | rfl | simp) (by omega) (by omega) (by decide) fun A' c' => ?_
            | (refine z_front rfl 1 rfl ?_; refine o_append rfl tabOk zeroOk rfl rfl rfl rfl rfl rfl (by first | assumption | exact Rds.cons _ (by assumption) | exact Rds.cons _ (Rds.cons _ (by assumption)) | exact own_rds 0 rfl | exact own_rds 1 rfl | exact own_rds 2 rfl) (by first | rfl | simp) (by first | rfl | simp) (by omega) (by omega) (by decide) fun A' c' => ?_)
            | (refine z_front rfl 2 rfl ?_; refine o_append rfl tabOk zeroOk rfl rfl rfl rfl rfl rfl (by first | assumption | exact Rds.cons _ (by assumption) | exact Rds.cons _ (Rds.cons _ (by assumption)) | exact own_rds 0 rfl | exact own_rds 1 rfl | exact own_rds 2 rfl) (by first | rfl | simp) (by first | rfl | simp) (by omega) (by omega) (by decide) fun A' c' => ?_)
            | (refine z_front rfl 3 rfl ?_; refine o_append rfl tabOk zeroOk rfl rfl rfl rfl rfl rfl (by first | assumption | exact Rds.cons _ (by assumption) | exact Rds.cons _ (Rds.cons _ (by assumption)) | exact own_rds 0 rfl | exact own_rds 1 rfl | exact own_rds 2 rfl) (by first | rfl | simp) (by first | rfl | simp) (by omega) (by omega) (by decide) fun A' c' => ?_)
            | (refine z_front rfl 4 rfl ?_; refine o_append rfl tabOk zeroOk rfl rfl rfl rfl rfl rfl (by first | assumption | exact Rds.cons _ (by assumption) | exact Rds.cons _ (Rds.cons _ (by assumption)) | exact own_rds 0 rfl | exact own_rds 1 rfl | exact own_rds 2 rfl) (by first | rfl | simp) (by first | rfl | simp) (by omega) (by omega) (by decide) fun A' c' => ?_)
            | (refine z_front rfl 5 rfl ?_; refine o_append rfl tabOk zeroOk rfl rfl rfl rfl rfl rfl (by first | assumption | exact Rds.cons _ (by assumption) | exact Rds.cons _ (Rds.cons _ (by assumption)) | exact own_rds 0 rfl | exact own_rds 1 rfl | exact own_rds 2 rfl) (by first | rfl | simp) (by first | rfl | simp) (by omega) (by omega) (by decide) fun A' c' => ?_))
        | refine o_move rfl (by decide) ?_
        | refine o_assign rfl (by decide) ?_
        | refine o_nil rfl (by decide) ?_
        | refine o_extract rfl rfl (by decide) ?_
        | refine o_not rfl (by decide) ?_
        | refine o_field0 tabOk rfl rfl rfl rfl rfl (by decide) ?_
        | refine o_field tabOk rfl rfl rfl rfl rfl (by decide) ?_
        | refine o_conv tabOk rfl rfl rfl (by decide) ?_))
def rfirst (x : Nat → Bool) (f t : Int) : Option Nat := ff x (max f 0).toNat ((min t 512).toNat - (max f 0).toNat)
def rfound : Option Nat → Int
  | some k => k
  | none => -1
def fcond (x : Nat → Bool) (f t : Int) (i : Nat) : Bool := !(decide (f ≤ i) && decide ((i : Int) < t) && !x i)
theorem rff {x : Nat → Bool} {f t : Int} : ff (fcond x f t) 0 512 = rfirst x f t := by
  have := ff_range x f t 512 0 (by omega)
  rw [Nat.max_eq_left (Nat.zero_le _)] at this
  exact this
theorem rfirst_fn (x : Nat → Bool) (f t : Int) : Pf Try.prog 26 [.agg (rm x).toArray, .int .i64 f, .int .i64 t] (.int .i64 (rfound (rfirst x f t))) := by
  intro w hw
  refine f_enter Try.func26 rfl Try.ntmps26 rfl hw ?_
  repeat' (first
    | (refine s_is ?_; first
        | (refine s_isagain ?_; first
            | exact c_again (i + 1) (hi.trans ((ff_go (by omega) (by simp_all [fcond])).trans (by rw [Nat.sub_sub]))) (by omega) ⟨rfl, rfl, rfl, rfl, trivial⟩ (fun w h => h))
        | (refine s_isret ?_; first
            | (exact p_r1 rfl (res_t (by rw [hi, ff_hit (by omega) (by simp_all [fcond])]; rfl)))
            | (exact p_r1 rfl (res_t (by rw [hi, show 512 - i = 0 by omega]; rfl))))
        | (refine s_isw ?_; first
            | (refine s_isloop ?_; first
                | refine c_loop (X := Nat) (fun i => rfirst x f t = ff (fcond x f t) i (512 - i)) (fun i => [(1, .int .i64 f), (2, .int .i64 t), (3, .pointer (some ⟨g, 0, none⟩)), (7, .int .i64 i)]) (fun i => [cells g 49 (rm x)]) (fun i => 512 - i) 0 rff.symm ⟨rfl, rfl, rfl, rfl, trivial⟩ (fun w h => h) (fun i hi => ?_))
            | refine c_seq ?_
            | refine c_block ?_
            | refine c_region ?_
            | refine c_mixed mixed (by kernel_rfl) ?_
            | refine c_skip ?_
            | refine c_ret ?_
            | refine c_exit ?_
            | (refine s_iscond ?_; first
                | (refine c_true rfl (by first | with_reducible rfl | ((with_reducible refine decide_eq_true ?_); first | with_reducible rfl | with_reducible assumption | omega) | (simp only [Bool.not_eq_true', decide_eq_false_iff_not]; omega) | (with_reducible assumption) | (rw [decide_eq_false] <;> (first | omega | with_reducible rfl)) | (rw [decide_eq_true] <;> (first | omega | with_reducible rfl)) | (simp; done) | (simp; omega)) ?_)
                | (refine c_false rfl (by first | with_reducible rfl | ((with_reducible refine decide_eq_false ?_); first | with_reducible assumption | omega) | (simp only [Bool.not_eq_false', decide_eq_true_eq]; omega) | (with_reducible assumption) | (rw [decide_eq_false] <;> (first | omega | with_reducible rfl)) | (rw [decide_eq_true] <;> (first | omega | with_reducible rfl)) | (simp; done) | (simp; omega)) ?_)
                | refine c_cond rfl (fun hc => ?_) (fun hc => ?_)
                | refine c_condb rfl (fun hc => ?_) (fun hc => ?_)))
        | refine x_then ?_
        | refine x_then_ret ?_
        | refine x_then_exit ?_
        | refine x_block _ ?_
        | refine x_block_ret _ ?_
        | refine x_block_exit _ ?_
        | refine x_block_past (by decide) ?_
        | refine z_tailm ?_)
    | (refine z_isguard ?_; first
        | (refine z_want rfl rfl (by first | with_reducible rfl | ((with_reducible refine decide_eq_true ?_); first | with_reducible rfl | with_reducible assumption | omega) | ((with_reducible refine decide_eq_false ?_); first | with_reducible assumption | omega) | (simp only [Bool.not_eq_true', Bool.not_eq_false', decide_eq_false_iff_not, decide_eq_true_eq]; omega) | (with_reducible assumption) | (rw [decide_eq_false] <;> (first | omega | with_reducible rfl)) | (rw [decide_eq_true] <;> (first | omega | with_reducible rfl)) | (simp; done) | (simp; omega)) ?_)
        | (refine z_skip (by decide) rfl rfl (by first | with_reducible rfl | ((with_reducible refine decide_eq_true ?_); first | with_reducible rfl | with_reducible assumption | omega) | ((with_reducible refine decide_eq_false ?_); first | with_reducible assumption | omega) | (simp only [Bool.not_eq_true', Bool.not_eq_false', decide_eq_false_iff_not, decide_eq_true_eq]; omega) | (with_reducible assumption) | (rw [decide_eq_false] <;> (first | omega | with_reducible rfl)) | (rw [decide_eq_true] <;> (first | omega | with_reducible rfl)) | (simp; done) | (simp; omega)) ?_)
        | refine z_skipu (by decide) rfl rfl ?_
        | refine z_guard1 (by decide) rfl rfl (fun hc => ?_) (fun hc => ?_)
        | refine z_guard0 (by decide) rfl rfl (fun hc => ?_) (fun hc => ?_)
        | refine z_guardb (by decide) rfl rfl (fun hc => ?_) (fun hc => ?_))
    | (refine z_isnil ?_; first
        | refine z_list ?_
        | refine z_mixed ?_
        | refine z_mono0 ?_
        | refine z_mono1 (by decide) fun g => ?_
        | refine z_mono2 (by decide) (by decide) fun g g' => ?_
        | refine z_mixedx ?_
        | refine z_quiet ?_)
    | (refine z_isop ?_; first
        | refine o_boxa rfl rfl (by decide) fun g => ?_
        | refine o_alloca (e := 26) (vs := bm (fun _ => 0)) rfl (by kernel_rfl) (by decide) fun g => ?_
        | refine o_alloca (e := 24) (vs := bm (fun _ => 0)) rfl (by kernel_rfl) (by decide) fun g => ?_
        | refine o_alloca (e := 23) (vs := bm (fun _ => 0)) rfl (by kernel_rfl) (by decide) fun g => ?_
        | refine o_alloca (e := 49) (vs := rm (fun _ => false)) rfl (by kernel_rfl) (by decide) fun g => ?_
        | (refine z_isbin ?_; first
            | (refine z_isb .add ?_; first
                | refine o_add rfl rfl (by omega) (by omega) (by decide) ?_
                | refine o_addw rfl rfl (by decide) ?_)
            | (refine z_isb .sub ?_; first
                | refine o_sub rfl rfl (by omega) (by omega) (by decide) ?_
                | refine o_subw rfl rfl (by decide) ?_)
            | (refine z_isb .mul ?_; first
                | refine o_mul rfl rfl (by omega) (by omega) (by decide) ?_
                | refine o_mulw rfl rfl (by decide) ?_)
            | (refine z_isb .eql ?_; first
                | refine o_eq rfl rfl (by decide) ?_
                | refine o_beq tabOk rfl rfl rfl (by decide) ?_
                | refine o_peq tabOk rfl rfl (by decide) ?_)
            | (refine z_isb .neq ?_; first
                | refine o_ne rfl rfl (by decide) ?_
                | refine o_bne tabOk rfl rfl rfl (by decide) ?_
                | refine o_pne tabOk rfl rfl (by decide) ?_)
            | (refine z_isb .lss ?_; first
                | refine o_lt rfl rfl (by decide) ?_)
            | (refine z_isb .leq ?_; first
                | refine o_le rfl rfl (by decide) ?_)
            | (refine z_isb .gtr ?_; first
                | refine o_gt rfl rfl (by decide) ?_)
            | (refine z_isb .geq ?_; first
                | refine o_ge rfl rfl (by decide) ?_)
            | (refine z_isb .quo ?_; first
                | refine o_quo rfl rfl (by omega) (by omega) (by omega) (by decide) ?_
                | refine o_quo8 rfl rfl (by omega) (by omega) (by omega) (by decide) ?_
                | refine o_quot rfl rfl (by omega) (by decide) ?_)
            | (refine z_isb .rem ?_; first
                | refine o_rem rfl rfl (by omega) (by omega) (by decide) ?_
                | refine o_remk rfl rfl (by omega) (by omega) (by decide) ?_
                | refine o_remt rfl rfl (by omega) (by decide) ?_)
            | (refine z_isb .and ?_; first
                | refine o_and rfl rfl (by decide) ?_)
            | (refine z_isb .or ?_; first
                | refine o_or rfl rfl (by decide) ?_)
            | (refine z_isb .andNot ?_; first
                | refine o_andNot rfl rfl (by decide) ?_)
            | (refine z_isb .shl ?_; first
                | refine o_shl rfl rfl (by omega) (by decide) ?_)
            | (refine z_isb .shr ?_; first
                | refine o_shr rfl rfl (by omega) (by decide) ?_))
        | (refine z_isload ?_; first
            | (refine z_ld1 tabOk rfl rfl ?_; first
                | ((refine z_ldi 0 rfl rfl ?_; refine o_load tabOk rfl rfl rfl 0 rfl (by first | exact bm_at _ (by omega) | exact rm_at _ (by omega) | rfl) (by decide) ?_))
                | ((refine z_ldi 1 rfl rfl ?_; refine o_load tabOk rfl rfl rfl 1 rfl (by first | exact bm_at _ (by omega) | exact rm_at _ (by omega) | rfl) (by decide) ?_))
                | ((refine z_ldi 2 rfl rfl ?_; refine o_load tabOk rfl rfl rfl 2 rfl (by first | exact bm_at _ (by omega) | exact rm_at _ (by omega) | rfl) (by decide) ?_))
                | ((refine z_ldi 3 rfl rfl ?_; refine o_load tabOk rfl rfl rfl 3 rfl (by first | exact bm_at _ (by omega) | exact rm_at _ (by omega) | rfl) (by decide) ?_))
                | ((refine z_ldi 4 rfl rfl ?_; refine o_load tabOk rfl rfl rfl 4 rfl (by first | exact bm_at _ (by omega) | exact rm_at _ (by omega) | rfl) (by decide) ?_))
                | ((refine z_ldi 5 rfl rfl ?_; refine o_load tabOk rfl rfl rfl 5 rfl (by first | exact bm_at _ (by omega) | exact rm_at _ (by omega) | rfl) (by decide) ?_))
                | ((refine z_ldi 6 rfl rfl ?_; refine o_load tabOk rfl rfl rfl 6 rfl (by first | exact bm_at _ (by omega) | exact rm_at _ (by omega) | rfl) (by decide) ?_))
                | refine o_loads tabOk (by first | assumption | exact Rds.cons _ (by assumption) | exact Rds.cons _ (Rds.cons _ (by assumption)) | exact own_rds 0 rfl | exact own_rds 1 rfl | exact own_rds 2 rfl) rfl rfl rfl (by first | exact bm_at _ (by omega) | exact rm_at _ (by omega) | rfl) (by decide) ?_)
            | (refine z_ldw tabOk rfl rfl ?_; first
                | ((refine z_ldi 0 rfl rfl ?_; refine o_loadw tabOk rfl rfl rfl 0 rfl (by first | exact bm_len _ | exact rm_len _ | (simp only [bm_len, rm_len]) | rfl) (by decide) ?_))
                | ((refine z_ldi 1 rfl rfl ?_; refine o_loadw tabOk rfl rfl rfl 1 rfl (by first | exact bm_len _ | exact rm_len _ | (simp only [bm_len, rm_len]) | rfl) (by decide) ?_))
                | ((refine z_ldi 2 rfl rfl ?_; refine o_loadw tabOk rfl rfl rfl 2 rfl (by first | exact bm_len _ | exact rm_len _ | (simp only [bm_len, rm_len]) | rfl) (by decide) ?_))
                | ((refine z_ldi 3 rfl rfl ?_; refine o_loadw tabOk rfl rfl rfl 3 rfl (by first | exact bm_len _ | exact rm_len _ | (simp only [bm_len, rm_len]) | rfl) (by decide) ?_))
                | ((refine z_ldi 4 rfl rfl ?_; refine o_loadw tabOk rfl rfl rfl 4 rfl (by first | exact bm_len _ | exact rm_len _ | (simp only [bm_len, rm_len]) | rfl) (by decide) ?_))
                | ((refine z_ldi 5 rfl rfl ?_; refine o_loadw tabOk rfl rfl rfl 5 rfl (by first | exact bm_len _ | exact rm_len _ | (simp only [bm_len, rm_len]) | rfl) (by decide) ?_))
                | ((refine z_ldi 6 rfl rfl ?_; refine o_loadw tabOk rfl rfl rfl 6 rfl (by first | exact bm_len _ | exact rm_len _ | (simp only [bm_len, rm_len]) | rfl) (by decide) ?_))))
        | (refine z_isstore ?_; first
            | (refine z_stw rfl ?_; first
                | ((refine z_sti 0 rfl rfl ?_; refine o_storeb0 rfl tabOk rfl rfl rfl (by first | exact bm_len _ | exact rm_len _ | (simp only [bm_len, rm_len]) | rfl) (by first | exact bm_one _ | exact rm_one _ | rfl) (by first | exact bm_len _ | exact rm_len _ | (simp only [bm_len, rm_len]) | rfl) ?_))
                | ((refine z_sti 1 rfl rfl ?_; refine o_storeb1 rfl tabOk rfl rfl rfl (by first | exact bm_len _ | exact rm_len _ | (simp only [bm_len, rm_len]) | rfl) (by first | exact bm_one _ | exact rm_one _ | rfl) (by first | exact bm_len _ | exact rm_len _ | (simp only [bm_len, rm_len]) | rfl) ?_))
                | ((refine z_sti 2 rfl rfl ?_; refine o_storeb2 rfl tabOk rfl rfl rfl (by first | exact bm_len _ | exact rm_len _ | (simp only [bm_len, rm_len]) | rfl) (by first | exact bm_one _ | exact rm_one _ | rfl) (by first | exact bm_len _ | exact rm_len _ | (simp only [bm_len, rm_len]) | rfl) ?_))
                | ((refine z_sti 3 rfl rfl ?_; refine o_storeb3 rfl tabOk rfl rfl rfl (by first | exact bm_len _ | exact rm_len _ | (simp only [bm_len, rm_len]) | rfl) (by first | exact bm_one _ | exact rm_one _ | rfl) (by first | exact bm_len _ | exact rm_len _ | (simp only [bm_len, rm_len]) | rfl) ?_))
                | ((refine z_sti 4 rfl rfl ?_; refine o_storeb4 rfl tabOk rfl rfl rfl (by first | exact bm_len _ | exact rm_len _ | (simp only [bm_len, rm_len]) | rfl) (by first | exact bm_one _ | exact rm_one _ | rfl) (by first | exact bm_len _ | exact rm_len _ | (simp only [bm_len, rm_len]) | rfl) ?_))
                | ((refine z_sti 5 rfl rfl ?_; refine o_storeb5 rfl tabOk rfl rfl rfl (by first | exact bm_len _ | exact rm_len _ | (simp only [bm_len, rm_len]) | rfl) (by first | exact bm_one _ | exact rm_one _ | rfl) (by first | exact bm_len _ | exact rm_len _ | (simp only [bm_len, rm_len]) | rfl) ?_))
                | ((refine z_sti 6 rfl rfl ?_; refine o_storeb6 rfl tabOk rfl rfl rfl (by first | exact bm_len _ | exact rm_len _ | (simp only [bm_len, rm_len]) | rfl) (by first | exact bm_one _ | exact rm_one _ | rfl) (by first | exact bm_len _ | exact rm_len _ | (simp only [bm_len, rm_len]) | rfl) ?_)))
            | (refine z_st1 rfl rfl ?_; first
                | refine o_store rfl tabOk rfl rfl rfl rfl rfl (by first | exact bm_at _ (by omega) | exact rm_at _ (by omega) | rfl) (by first | exact bm_set _ _ _ | exact rm_set _ _ _ | rfl) ?_
                | ((refine z_sti 1 rfl rfl ?_; refine o_store1 rfl tabOk rfl rfl rfl rfl rfl (by first | exact bm_at _ (by omega) | exact rm_at _ (by omega) | rfl) (by first | exact bm_set _ _ _ | exact rm_set _ _ _ | rfl) ?_))
                | ((refine z_sti 2 rfl rfl ?_; refine o_store2 rfl tabOk rfl rfl rfl rfl rfl (by first | exact bm_at _ (by omega) | exact rm_at _ (by omega) | rfl) (by first | exact bm_set _ _ _ | exact rm_set _ _ _ | rfl) ?_))
                | ((refine z_sti 3 rfl rfl ?_; refine o_store3 rfl tabOk rfl rfl rfl rfl rfl (by first | exact bm_at _ (by omega) | exact rm_at _ (by omega) | rfl) (by first | exact bm_set _ _ _ | exact rm_set _ _ _ | rfl) ?_))
                | ((refine z_sti 4 rfl rfl ?_; refine o_store4 rfl tabOk rfl rfl rfl rfl rfl (by first | exact bm_at _ (by omega) | exact rm_at _ (by omega) | rfl) (by first | exact bm_set _ _ _ | exact rm_set _ _ _ | rfl) ?_))
                | ((refine z_sti 5 rfl rfl ?_; refine o_store5 rfl tabOk rfl rfl rfl rfl rfl (by first | exact bm_at _ (by omega) | exact rm_at _ (by omega) | rfl) (by first | exact bm_set _ _ _ | exact rm_set _ _ _ | rfl) ?_))
                | ((refine z_sti 6 rfl rfl ?_; refine o_store6 rfl tabOk rfl rfl rfl rfl rfl (by first | exact bm_at _ (by omega) | exact rm_at _ (by omega) | rfl) (by first | exact bm_set _ _ _ | exact rm_set _ _ _ | rfl) ?_))))
        | (refine z_isfield ?_; first
            | refine o_fv tabOk rfl rfl rfl rfl rfl (by first | exact bm_at _ (by omega) | exact rm_at _ (by omega) | rfl) (by decide) ?_
            | refine o_fvw tabOk rfl rfl rfl rfl rfl (by first | exact bm_len _ | exact rm_len _ | (simp only [bm_len, rm_len]) | rfl) (by decide) ?_)
        | (refine z_isindex ?_; first
            | refine o_ixv tabOk rfl rfl rfl rfl rfl (by omega) (by omega) (by first | exact bm_at _ (by omega) | exact rm_at _ (by omega) | rfl) (by decide) ?_)
        | (refine z_ismakes ?_; first
            | refine o_make1 rfl tabOk zeroOk rfl rfl rfl rfl rfl (by decide) fun g => ?_)
        | (refine z_iscall ?_; first
            | ((refine z_iscallf 44 ?_; refine o_fn rfl Try.func44 rfl rfl rfl (in_fn _) (by decide) ?_))
            | ((refine z_iscallf 16 ?_; refine o_fn rfl Try.func16 rfl rfl rfl (has_fn _ (by assumption) _) (by decide) ?_))
            | ((refine z_iscallf 17 ?_; refine o_fn rfl Try.func17 rfl rfl rfl (take_fn _ (by assumption) _) (by decide) ?_))
            | ((refine z_iscallf 25 ?_; refine o_fn rfl Try.func25 rfl rfl rfl (free_fn _ (by assumption) _) (by decide) ?_))
            | ((refine z_iscallf 12 ?_; refine o_fn rfl Try.func12 rfl rfl rfl (of_fn _) (by decide) ?_))
            | ((refine z_iscallf 24 ?_; refine o_fn rfl Try.func24 rfl rfl rfl (block_fn _) (by decide) ?_))
            | ((refine z_iscallf 43 ?_; refine o_fn rfl Try.func43 rfl rfl rfl (ones_fn _ (hr _).1 (hr _).2) (by decide) ?_))
            | ((refine z_iscallf 15 ?_; refine o_fn rfl Try.func15 rfl rfl rfl (first_fn _ (by assumption) _ _) (by decide) ?_))
            | ((refine z_iscallf 14 ?_; refine o_fn rfl Try.func14 rfl rfl rfl (count_fn _ (by assumption) _ _) (by decide) ?_)))
        | (refine z_ispick ?_; first
            | (refine o_pick1 rfl (by first | with_reducible rfl | ((with_reducible refine decide_eq_true ?_); first | with_reducible rfl | with_reducible assumption | omega) | (simp only [Bool.not_eq_true', decide_eq_false_iff_not]; omega) | (with_reducible assumption) | (rw [decide_eq_false] <;> (first | omega | with_reducible rfl)) | (rw [decide_eq_true] <;> (first | omega | with_reducible rfl)) | (simp; done) | (simp; omega)) rfl (by decide) ?_)
            | (refine o_pick0 rfl (by first | with_reducible rfl | ((with_reducible refine decide_eq_false ?_); first | with_reducible assumption | omega) | (simp only [Bool.not_eq_false', decide_eq_true_eq]; omega) | (with_reducible assumption) | (rw [decide_eq_false] <;> (first | omega | with_reducible rfl)) | (rw [decide_eq_true] <;> (first | omega | with_reducible rfl)) | (simp; done) | (simp; omega)) rfl (by decide) ?_))
        | (refine z_isix ?_; first
            | refine o_index0 tabOk rfl rfl rfl rfl (by omega) (by omega) (by decide) ?_
            | refine o_index1 tabOk rfl rfl rfl rfl (by omega) (by omega) (by decide) ?_
            | refine o_indexsk tabOk rfl rfl rfl rfl (by omega) (by omega) (by decide) ?_
            | refine o_indexs1 tabOk (by first | assumption) rfl rfl rfl rfl (by omega) (by omega) (by decide) ?_)
        | (refine z_isslice ?_; first
            | refine o_slice tabOk rfl rfl rfl rfl rfl (by omega) (by omega) (by omega) (by decide) ?_
            | refine o_slicel tabOk rfl rfl rfl rfl (by omega) (by omega) (by omega) (by decide) ?_
            | refine o_sliceh tabOk rfl rfl rfl rfl (by omega) (by omega) (by decide) ?_
            | refine o_slp tabOk rfl rfl rfl rfl rfl (by omega) (by omega) (by omega) (by omega) (by decide) ?_
            | refine o_slpl tabOk rfl rfl rfl rfl (by omega) (by omega) (by decide) ?_
            | refine o_slp0 tabOk rfl rfl rfl rfl (by decide) ?_)
        | (refine z_isbi ?_; first
            | refine o_len tabOk rfl rfl (by decide) ?_
            | refine o_min rfl rfl (by decide) ?_
            | refine o_max rfl rfl (by decide) ?_
            | refine o_append rfl tabOk zeroOk rfl rfl rfl rfl rfl rfl (by first | assumption | exact Rds.cons _ (by assumption) | exact Rds.cons _ (Rds.cons _ (by assumption)) | exact own_rds 0 rfl | exact own_rds 1 rfl | exact own_rds 2 rfl) (by first | rfl | simp) (by first | rfl | simp) (by omega) (by omega) (by decide) fun A' c' => ?_
            | (refine z_front rfl 1 rfl ?_; refine o_append rfl tabOk zeroOk rfl rfl rfl rfl rfl rfl (by first | assumption | exact Rds.cons _ (by assumption) | exact Rds.cons _ (Rds.cons _ (by assumption)) | exact own_rds 0 rfl | exact own_rds 1 rfl | exact own_rds 2 rfl) (by first | rfl | simp) (by first | rfl | simp) (by omega) (by omega) (by decide) fun A' c' => ?_)
            | (refine z_front rfl 2 rfl ?_; refine o_append rfl tabOk zeroOk rfl rfl rfl rfl rfl rfl (by first | assumption | exact Rds.cons _ (by assumption) | exact Rds.cons _ (Rds.cons _ (by assumption)) | exact own_rds 0 rfl | exact own_rds 1 rfl | exact own_rds 2 rfl) (by first | rfl | simp) (by first | rfl | simp) (by omega) (by omega) (by decide) fun A' c' => ?_)
            | (refine z_front rfl 3 rfl ?_; refine o_append rfl tabOk zeroOk rfl rfl rfl rfl rfl rfl (by first | assumption | exact Rds.cons _ (by assumption) | exact Rds.cons _ (Rds.cons _ (by assumption)) | exact own_rds 0 rfl | exact own_rds 1 rfl | exact own_rds 2 rfl) (by first | rfl | simp) (by first | rfl | simp) (by omega) (by omega) (by decide) fun A' c' => ?_)
            | (refine z_front rfl 4 rfl ?_; refine o_append rfl tabOk zeroOk rfl rfl rfl rfl rfl rfl (by first | assumption | exact Rds.cons _ (by assumption) | exact Rds.cons _ (Rds.cons _ (by assumption)) | exact own_rds 0 rfl | exact own_rds 1 rfl | exact own_rds 2 rfl) (by first | rfl | simp) (by first | rfl | simp) (by omega) (by omega) (by decide) fun A' c' => ?_)
            | (refine z_front rfl 5 rfl ?_; refine o_append rfl tabOk zeroOk rfl rfl rfl rfl rfl rfl (by first | assumption | exact Rds.cons _ (by assumption) | exact Rds.cons _ (Rds.cons _ (by assumption)) | exact own_rds 0 rfl | exact own_rds 1 rfl | exact own_rds 2 rfl) (by first | rfl | simp) (by first | rfl | simp) (by omega) (by omega) (by decide) fun A' c' => ?_))
        | refine o_move rfl (by decide) ?_
        | refine o_assign rfl (by decide) ?_
        | refine o_nil rfl (by decide) ?_
        | refine o_extract rfl rfl (by decide) ?_
        | refine o_not rfl (by decide) ?_
        | refine o_field0 tabOk rfl rfl rfl rfl rfl (by decide) ?_
        | refine o_field tabOk rfl rfl rfl rfl rfl (by decide) ?_
        | refine o_conv tabOk rfl rfl rfl (by decide) ?_))
def rcount (x : Nat → Bool) (f t : Int) : Nat := cn x (max f 0).toNat ((min t 512).toNat - (max f 0).toNat)
def ccond (x : Nat → Bool) (f t : Int) (i : Nat) : Bool := decide (f ≤ i) && decide ((i : Int) < t) && x i
theorem rcount_eq (x : Nat → Bool) (f t : Int) : cn (ccond x f t) 0 512 = rcount x f t := cn_range x f t 512 (Nat.le_refl _)
theorem cn_next (y : Nat → Bool) (i : Nat) : cn y 0 (i + 1) = cn y 0 i + (y i).toNat := by
  show _ + (y (0 + i)).toNat = _
  rw [Nat.zero_add]
theorem ccond_yes {x : Nat → Bool} {f t : Int} {i : Nat} (h1 : (i : Int) ≥ f) (h2 : (i : Int) < t) (h3 : x ((i : Int).toNat) = true) : cn (ccond x f t) 0 (i + 1) = cn (ccond x f t) 0 i + 1 := by
  rw [cn_next]; rw [Int.toNat_natCast] at h3; unfold ccond; simp [h2, h3]; exact h1
theorem ccond_no {x : Nat → Bool} {f t : Int} {i : Nat} (h : ¬ f ≤ (i : Int) ∨ ¬ (i : Int) < t ∨ x ((i : Int).toNat) = false) : cn (ccond x f t) 0 (i + 1) = cn (ccond x f t) 0 i := by
  rw [cn_next]; rw [Int.toNat_natCast] at h; unfold ccond
  rcases h with h | h | h <;> simp [h]
theorem rcount_fn (x : Nat → Bool) (f t : Int) : Pf Try.prog 27 [.agg (rm x).toArray, .int .i64 f, .int .i64 t] (.int .i64 (rcount x f t)) := by
  intro w hw
  refine f_enter Try.func27 rfl Try.ntmps27 rfl hw ?_
  repeat' (first
    | (refine s_is ?_; first
        | (refine s_isagain ?_; first
            | (exact c_again (i + 1) (by omega) (by omega) ⟨rfl, rfl, rfl, sli_eq (by first | (rw [ccond_yes (by with_reducible assumption) (by with_reducible assumption) (by with_reducible assumption)]; rfl) | (rw [ccond_no (by first | exact .inl (by with_reducible assumption) | exact .inr (.inl (by with_reducible assumption)) | exact .inr (.inr (by with_reducible assumption)))])), rfl, trivial⟩ (fun w h => h)))
        | (refine s_isret ?_; first
            | exact p_r1 rfl (res_t (sli_eq (by rw [← rcount_eq, show i = 512 by omega]))))
        | (refine s_isw ?_; first
            | (refine s_isloop ?_; first
                | ((refine c_loop (X := Nat) (fun i => i ≤ 512) (fun i => [(1, .int .i64 f), (2, .int .i64 t), (3, .pointer (some ⟨g, 0, none⟩)), (7, .int .i64 (cn (ccond x f t) 0 i)), (8, .int .i64 i)]) (fun i => [cells g 49 (rm x)]) (fun i => 512 - i) 0 (Nat.zero_le _) ⟨rfl, rfl, rfl, rfl, rfl, trivial⟩ (fun w h => h) (fun i hi => ?_); have hcn := cn_le (ccond x f t) 0 i)))
            | refine c_seq ?_
            | refine c_block ?_
            | refine c_region ?_
            | refine c_mixed mixed (by kernel_rfl) ?_
            | refine c_skip ?_
            | refine c_ret ?_
            | refine c_exit ?_
            | (refine s_iscond ?_; first
                | (refine c_true rfl (by first | with_reducible rfl | ((with_reducible refine decide_eq_true ?_); first | with_reducible rfl | with_reducible assumption | omega) | (simp only [Bool.not_eq_true', decide_eq_false_iff_not]; omega) | (with_reducible assumption) | (rw [decide_eq_false] <;> (first | omega | with_reducible rfl)) | (rw [decide_eq_true] <;> (first | omega | with_reducible rfl)) | (simp; done) | (simp; omega)) ?_)
                | (refine c_false rfl (by first | with_reducible rfl | ((with_reducible refine decide_eq_false ?_); first | with_reducible assumption | omega) | (simp only [Bool.not_eq_false', decide_eq_true_eq]; omega) | (with_reducible assumption) | (rw [decide_eq_false] <;> (first | omega | with_reducible rfl)) | (rw [decide_eq_true] <;> (first | omega | with_reducible rfl)) | (simp; done) | (simp; omega)) ?_)
                | refine c_cond rfl (fun hc => ?_) (fun hc => ?_)
                | refine c_condb rfl (fun hc => ?_) (fun hc => ?_)))
        | refine x_then ?_
        | refine x_then_ret ?_
        | refine x_then_exit ?_
        | refine x_block _ ?_
        | refine x_block_ret _ ?_
        | refine x_block_exit _ ?_
        | refine x_block_past (by decide) ?_
        | refine z_tailm ?_)
    | (refine z_isguard ?_; first
        | (refine z_want rfl rfl (by first | with_reducible rfl | ((with_reducible refine decide_eq_true ?_); first | with_reducible rfl | with_reducible assumption | omega) | ((with_reducible refine decide_eq_false ?_); first | with_reducible assumption | omega) | (simp only [Bool.not_eq_true', Bool.not_eq_false', decide_eq_false_iff_not, decide_eq_true_eq]; omega) | (with_reducible assumption) | (rw [decide_eq_false] <;> (first | omega | with_reducible rfl)) | (rw [decide_eq_true] <;> (first | omega | with_reducible rfl)) | (simp; done) | (simp; omega)) ?_)
        | (refine z_skip (by decide) rfl rfl (by first | with_reducible rfl | ((with_reducible refine decide_eq_true ?_); first | with_reducible rfl | with_reducible assumption | omega) | ((with_reducible refine decide_eq_false ?_); first | with_reducible assumption | omega) | (simp only [Bool.not_eq_true', Bool.not_eq_false', decide_eq_false_iff_not, decide_eq_true_eq]; omega) | (with_reducible assumption) | (rw [decide_eq_false] <;> (first | omega | with_reducible rfl)) | (rw [decide_eq_true] <;> (first | omega | with_reducible rfl)) | (simp; done) | (simp; omega)) ?_)
        | refine z_skipu (by decide) rfl rfl ?_
        | refine z_guard1 (by decide) rfl rfl (fun hc => ?_) (fun hc => ?_)
        | refine z_guard0 (by decide) rfl rfl (fun hc => ?_) (fun hc => ?_)
        | refine z_guardb (by decide) rfl rfl (fun hc => ?_) (fun hc => ?_))
    | (refine z_isnil ?_; first
        | refine z_list ?_
        | refine z_mixed ?_
        | refine z_mono0 ?_
        | refine z_mono1 (by decide) fun g => ?_
        | refine z_mono2 (by decide) (by decide) fun g g' => ?_
        | refine z_mixedx ?_
        | refine z_quiet ?_)
    | (refine z_isop ?_; first
        | refine o_boxa rfl rfl (by decide) fun g => ?_
        | refine o_alloca (e := 26) (vs := bm (fun _ => 0)) rfl (by kernel_rfl) (by decide) fun g => ?_
        | refine o_alloca (e := 24) (vs := bm (fun _ => 0)) rfl (by kernel_rfl) (by decide) fun g => ?_
        | refine o_alloca (e := 23) (vs := bm (fun _ => 0)) rfl (by kernel_rfl) (by decide) fun g => ?_
        | refine o_alloca (e := 49) (vs := rm (fun _ => false)) rfl (by kernel_rfl) (by decide) fun g => ?_
        | (refine z_isbin ?_; first
            | (refine z_isb .add ?_; first
                | refine o_add rfl rfl (by omega) (by omega) (by decide) ?_
                | refine o_addw rfl rfl (by decide) ?_)
            | (refine z_isb .sub ?_; first
                | refine o_sub rfl rfl (by omega) (by omega) (by decide) ?_
                | refine o_subw rfl rfl (by decide) ?_)
            | (refine z_isb .mul ?_; first
                | refine o_mul rfl rfl (by omega) (by omega) (by decide) ?_
                | refine o_mulw rfl rfl (by decide) ?_)
            | (refine z_isb .eql ?_; first
                | refine o_eq rfl rfl (by decide) ?_
                | refine o_beq tabOk rfl rfl rfl (by decide) ?_
                | refine o_peq tabOk rfl rfl (by decide) ?_)
            | (refine z_isb .neq ?_; first
                | refine o_ne rfl rfl (by decide) ?_
                | refine o_bne tabOk rfl rfl rfl (by decide) ?_
                | refine o_pne tabOk rfl rfl (by decide) ?_)
            | (refine z_isb .lss ?_; first
                | refine o_lt rfl rfl (by decide) ?_)
            | (refine z_isb .leq ?_; first
                | refine o_le rfl rfl (by decide) ?_)
            | (refine z_isb .gtr ?_; first
                | refine o_gt rfl rfl (by decide) ?_)
            | (refine z_isb .geq ?_; first
                | refine o_ge rfl rfl (by decide) ?_)
            | (refine z_isb .quo ?_; first
                | refine o_quo rfl rfl (by omega) (by omega) (by omega) (by decide) ?_
                | refine o_quo8 rfl rfl (by omega) (by omega) (by omega) (by decide) ?_
                | refine o_quot rfl rfl (by omega) (by decide) ?_)
            | (refine z_isb .rem ?_; first
                | refine o_rem rfl rfl (by omega) (by omega) (by decide) ?_
                | refine o_remk rfl rfl (by omega) (by omega) (by decide) ?_
                | refine o_remt rfl rfl (by omega) (by decide) ?_)
            | (refine z_isb .and ?_; first
                | refine o_and rfl rfl (by decide) ?_)
            | (refine z_isb .or ?_; first
                | refine o_or rfl rfl (by decide) ?_)
            | (refine z_isb .andNot ?_; first
                | refine o_andNot rfl rfl (by decide) ?_)
            | (refine z_isb .shl ?_; first
                | refine o_shl rfl rfl (by omega) (by decide) ?_)
            | (refine z_isb .shr ?_; first
                | refine o_shr rfl rfl (by omega) (by decide) ?_))
        | (refine z_isload ?_; first
            | (refine z_ld1 tabOk rfl rfl ?_; first
                | ((refine z_ldi 0 rfl rfl ?_; refine o_load tabOk rfl rfl rfl 0 rfl (by first | exact bm_at _ (by omega) | exact rm_at _ (by omega) | rfl) (by decide) ?_))
                | ((refine z_ldi 1 rfl rfl ?_; refine o_load tabOk rfl rfl rfl 1 rfl (by first | exact bm_at _ (by omega) | exact rm_at _ (by omega) | rfl) (by decide) ?_))
                | ((refine z_ldi 2 rfl rfl ?_; refine o_load tabOk rfl rfl rfl 2 rfl (by first | exact bm_at _ (by omega) | exact rm_at _ (by omega) | rfl) (by decide) ?_))
                | ((refine z_ldi 3 rfl rfl ?_; refine o_load tabOk rfl rfl rfl 3 rfl (by first | exact bm_at _ (by omega) | exact rm_at _ (by omega) | rfl) (by decide) ?_))
                | ((refine z_ldi 4 rfl rfl ?_; refine o_load tabOk rfl rfl rfl 4 rfl (by first | exact bm_at _ (by omega) | exact rm_at _ (by omega) | rfl) (by decide) ?_))
                | ((refine z_ldi 5 rfl rfl ?_; refine o_load tabOk rfl rfl rfl 5 rfl (by first | exact bm_at _ (by omega) | exact rm_at _ (by omega) | rfl) (by decide) ?_))
                | ((refine z_ldi 6 rfl rfl ?_; refine o_load tabOk rfl rfl rfl 6 rfl (by first | exact bm_at _ (by omega) | exact rm_at _ (by omega) | rfl) (by decide) ?_))
                | refine o_loads tabOk (by first | assumption | exact Rds.cons _ (by assumption) | exact Rds.cons _ (Rds.cons _ (by assumption)) | exact own_rds 0 rfl | exact own_rds 1 rfl | exact own_rds 2 rfl) rfl rfl rfl (by first | exact bm_at _ (by omega) | exact rm_at _ (by omega) | rfl) (by decide) ?_)
            | (refine z_ldw tabOk rfl rfl ?_; first
                | ((refine z_ldi 0 rfl rfl ?_; refine o_loadw tabOk rfl rfl rfl 0 rfl (by first | exact bm_len _ | exact rm_len _ | (simp only [bm_len, rm_len]) | rfl) (by decide) ?_))
                | ((refine z_ldi 1 rfl rfl ?_; refine o_loadw tabOk rfl rfl rfl 1 rfl (by first | exact bm_len _ | exact rm_len _ | (simp only [bm_len, rm_len]) | rfl) (by decide) ?_))
                | ((refine z_ldi 2 rfl rfl ?_; refine o_loadw tabOk rfl rfl rfl 2 rfl (by first | exact bm_len _ | exact rm_len _ | (simp only [bm_len, rm_len]) | rfl) (by decide) ?_))
                | ((refine z_ldi 3 rfl rfl ?_; refine o_loadw tabOk rfl rfl rfl 3 rfl (by first | exact bm_len _ | exact rm_len _ | (simp only [bm_len, rm_len]) | rfl) (by decide) ?_))
                | ((refine z_ldi 4 rfl rfl ?_; refine o_loadw tabOk rfl rfl rfl 4 rfl (by first | exact bm_len _ | exact rm_len _ | (simp only [bm_len, rm_len]) | rfl) (by decide) ?_))
                | ((refine z_ldi 5 rfl rfl ?_; refine o_loadw tabOk rfl rfl rfl 5 rfl (by first | exact bm_len _ | exact rm_len _ | (simp only [bm_len, rm_len]) | rfl) (by decide) ?_))
                | ((refine z_ldi 6 rfl rfl ?_; refine o_loadw tabOk rfl rfl rfl 6 rfl (by first | exact bm_len _ | exact rm_len _ | (simp only [bm_len, rm_len]) | rfl) (by decide) ?_))))
        | (refine z_isstore ?_; first
            | (refine z_stw rfl ?_; first
                | ((refine z_sti 0 rfl rfl ?_; refine o_storeb0 rfl tabOk rfl rfl rfl (by first | exact bm_len _ | exact rm_len _ | (simp only [bm_len, rm_len]) | rfl) (by first | exact bm_one _ | exact rm_one _ | rfl) (by first | exact bm_len _ | exact rm_len _ | (simp only [bm_len, rm_len]) | rfl) ?_))
                | ((refine z_sti 1 rfl rfl ?_; refine o_storeb1 rfl tabOk rfl rfl rfl (by first | exact bm_len _ | exact rm_len _ | (simp only [bm_len, rm_len]) | rfl) (by first | exact bm_one _ | exact rm_one _ | rfl) (by first | exact bm_len _ | exact rm_len _ | (simp only [bm_len, rm_len]) | rfl) ?_))
                | ((refine z_sti 2 rfl rfl ?_; refine o_storeb2 rfl tabOk rfl rfl rfl (by first | exact bm_len _ | exact rm_len _ | (simp only [bm_len, rm_len]) | rfl) (by first | exact bm_one _ | exact rm_one _ | rfl) (by first | exact bm_len _ | exact rm_len _ | (simp only [bm_len, rm_len]) | rfl) ?_))
                | ((refine z_sti 3 rfl rfl ?_; refine o_storeb3 rfl tabOk rfl rfl rfl (by first | exact bm_len _ | exact rm_len _ | (simp only [bm_len, rm_len]) | rfl) (by first | exact bm_one _ | exact rm_one _ | rfl) (by first | exact bm_len _ | exact rm_len _ | (simp only [bm_len, rm_len]) | rfl) ?_))
                | ((refine z_sti 4 rfl rfl ?_; refine o_storeb4 rfl tabOk rfl rfl rfl (by first | exact bm_len _ | exact rm_len _ | (simp only [bm_len, rm_len]) | rfl) (by first | exact bm_one _ | exact rm_one _ | rfl) (by first | exact bm_len _ | exact rm_len _ | (simp only [bm_len, rm_len]) | rfl) ?_))
                | ((refine z_sti 5 rfl rfl ?_; refine o_storeb5 rfl tabOk rfl rfl rfl (by first | exact bm_len _ | exact rm_len _ | (simp only [bm_len, rm_len]) | rfl) (by first | exact bm_one _ | exact rm_one _ | rfl) (by first | exact bm_len _ | exact rm_len _ | (simp only [bm_len, rm_len]) | rfl) ?_))
                | ((refine z_sti 6 rfl rfl ?_; refine o_storeb6 rfl tabOk rfl rfl rfl (by first | exact bm_len _ | exact rm_len _ | (simp only [bm_len, rm_len]) | rfl) (by first | exact bm_one _ | exact rm_one _ | rfl) (by first | exact bm_len _ | exact rm_len _ | (simp only [bm_len, rm_len]) | rfl) ?_)))
            | (refine z_st1 rfl rfl ?_; first
                | refine o_store rfl tabOk rfl rfl rfl rfl rfl (by first | exact bm_at _ (by omega) | exact rm_at _ (by omega) | rfl) (by first | exact bm_set _ _ _ | exact rm_set _ _ _ | rfl) ?_
                | ((refine z_sti 1 rfl rfl ?_; refine o_store1 rfl tabOk rfl rfl rfl rfl rfl (by first | exact bm_at _ (by omega) | exact rm_at _ (by omega) | rfl) (by first | exact bm_set _ _ _ | exact rm_set _ _ _ | rfl) ?_))
                | ((refine z_sti 2 rfl rfl ?_; refine o_store2 rfl tabOk rfl rfl rfl rfl rfl (by first | exact bm_at _ (by omega) | exact rm_at _ (by omega) | rfl) (by first | exact bm_set _ _ _ | exact rm_set _ _ _ | rfl) ?_))
                | ((refine z_sti 3 rfl rfl ?_; refine o_store3 rfl tabOk rfl rfl rfl rfl rfl (by first | exact bm_at _ (by omega) | exact rm_at _ (by omega) | rfl) (by first | exact bm_set _ _ _ | exact rm_set _ _ _ | rfl) ?_))
                | ((refine z_sti 4 rfl rfl ?_; refine o_store4 rfl tabOk rfl rfl rfl rfl rfl (by first | exact bm_at _ (by omega) | exact rm_at _ (by omega) | rfl) (by first | exact bm_set _ _ _ | exact rm_set _ _ _ | rfl) ?_))
                | ((refine z_sti 5 rfl rfl ?_; refine o_store5 rfl tabOk rfl rfl rfl rfl rfl (by first | exact bm_at _ (by omega) | exact rm_at _ (by omega) | rfl) (by first | exact bm_set _ _ _ | exact rm_set _ _ _ | rfl) ?_))
                | ((refine z_sti 6 rfl rfl ?_; refine o_store6 rfl tabOk rfl rfl rfl rfl rfl (by first | exact bm_at _ (by omega) | exact rm_at _ (by omega) | rfl) (by first | exact bm_set _ _ _ | exact rm_set _ _ _ | rfl) ?_))))
        | (refine z_isfield ?_; first
            | refine o_fv tabOk rfl rfl rfl rfl rfl (by first | exact bm_at _ (by omega) | exact rm_at _ (by omega) | rfl) (by decide) ?_
            | refine o_fvw tabOk rfl rfl rfl rfl rfl (by first | exact bm_len _ | exact rm_len _ | (simp only [bm_len, rm_len]) | rfl) (by decide) ?_)
        | (refine z_isindex ?_; first
            | refine o_ixv tabOk rfl rfl rfl rfl rfl (by omega) (by omega) (by first | exact bm_at _ (by omega) | exact rm_at _ (by omega) | rfl) (by decide) ?_)
        | (refine z_ismakes ?_; first
            | refine o_make1 rfl tabOk zeroOk rfl rfl rfl rfl rfl (by decide) fun g => ?_)
        | (refine z_iscall ?_; first
            | ((refine z_iscallf 44 ?_; refine o_fn rfl Try.func44 rfl rfl rfl (in_fn _) (by decide) ?_))
            | ((refine z_iscallf 16 ?_; refine o_fn rfl Try.func16 rfl rfl rfl (has_fn _ (by assumption) _) (by decide) ?_))
            | ((refine z_iscallf 17 ?_; refine o_fn rfl Try.func17 rfl rfl rfl (take_fn _ (by assumption) _) (by decide) ?_))
            | ((refine z_iscallf 25 ?_; refine o_fn rfl Try.func25 rfl rfl rfl (free_fn _ (by assumption) _) (by decide) ?_))
            | ((refine z_iscallf 12 ?_; refine o_fn rfl Try.func12 rfl rfl rfl (of_fn _) (by decide) ?_))
            | ((refine z_iscallf 24 ?_; refine o_fn rfl Try.func24 rfl rfl rfl (block_fn _) (by decide) ?_))
            | ((refine z_iscallf 43 ?_; refine o_fn rfl Try.func43 rfl rfl rfl (ones_fn _ (hr _).1 (hr _).2) (by decide) ?_))
            | ((refine z_iscallf 15 ?_; refine o_fn rfl Try.func15 rfl rfl rfl (first_fn _ (by assumption) _ _) (by decide) ?_))
            | ((refine z_iscallf 14 ?_; refine o_fn rfl Try.func14 rfl rfl rfl (count_fn _ (by assumption) _ _) (by decide) ?_)))
        | (refine z_ispick ?_; first
            | (refine o_pick1 rfl (by first | with_reducible rfl | ((with_reducible refine decide_eq_true ?_); first | with_reducible rfl | with_reducible assumption | omega) | (simp only [Bool.not_eq_true', decide_eq_false_iff_not]; omega) | (with_reducible assumption) | (rw [decide_eq_false] <;> (first | omega | with_reducible rfl)) | (rw [decide_eq_true] <;> (first | omega | with_reducible rfl)) | (simp; done) | (simp; omega)) rfl (by decide) ?_)
            | (refine o_pick0 rfl (by first | with_reducible rfl | ((with_reducible refine decide_eq_false ?_); first | with_reducible assumption | omega) | (simp only [Bool.not_eq_false', decide_eq_true_eq]; omega) | (with_reducible assumption) | (rw [decide_eq_false] <;> (first | omega | with_reducible rfl)) | (rw [decide_eq_true] <;> (first | omega | with_reducible rfl)) | (simp; done) | (simp; omega)) rfl (by decide) ?_))
        | (refine z_isix ?_; first
            | refine o_index0 tabOk rfl rfl rfl rfl (by omega) (by omega) (by decide) ?_
            | refine o_index1 tabOk rfl rfl rfl rfl (by omega) (by omega) (by decide) ?_
            | refine o_indexsk tabOk rfl rfl rfl rfl (by omega) (by omega) (by decide) ?_
            | refine o_indexs1 tabOk (by first | assumption) rfl rfl rfl rfl (by omega) (by omega) (by decide) ?_)
        | (refine z_isslice ?_; first
            | refine o_slice tabOk rfl rfl rfl rfl rfl (by omega) (by omega) (by omega) (by decide) ?_
            | refine o_slicel tabOk rfl rfl rfl rfl (by omega) (by omega) (by omega) (by decide) ?_
            | refine o_sliceh tabOk rfl rfl rfl rfl (by omega) (by omega) (by decide) ?_
            | refine o_slp tabOk rfl rfl rfl rfl rfl (by omega) (by omega) (by omega) (by omega) (by decide) ?_
            | refine o_slpl tabOk rfl rfl rfl rfl (by omega) (by omega) (by decide) ?_
            | refine o_slp0 tabOk rfl rfl rfl rfl (by decide) ?_)
        | (refine z_isbi ?_; first
            | refine o_len tabOk rfl rfl (by decide) ?_
            | refine o_min rfl rfl (by decide) ?_
            | refine o_max rfl rfl (by decide) ?_
            | refine o_append rfl tabOk zeroOk rfl rfl rfl rfl rfl rfl (by first | assumption | exact Rds.cons _ (by assumption) | exact Rds.cons _ (Rds.cons _ (by assumption)) | exact own_rds 0 rfl | exact own_rds 1 rfl | exact own_rds 2 rfl) (by first | rfl | simp) (by first | rfl | simp) (by omega) (by omega) (by decide) fun A' c' => ?_
            | (refine z_front rfl 1 rfl ?_; refine o_append rfl tabOk zeroOk rfl rfl rfl rfl rfl rfl (by first | assumption | exact Rds.cons _ (by assumption) | exact Rds.cons _ (Rds.cons _ (by assumption)) | exact own_rds 0 rfl | exact own_rds 1 rfl | exact own_rds 2 rfl) (by first | rfl | simp) (by first | rfl | simp) (by omega) (by omega) (by decide) fun A' c' => ?_)
            | (refine z_front rfl 2 rfl ?_; refine o_append rfl tabOk zeroOk rfl rfl rfl rfl rfl rfl (by first | assumption | exact Rds.cons _ (by assumption) | exact Rds.cons _ (Rds.cons _ (by assumption)) | exact own_rds 0 rfl | exact own_rds 1 rfl | exact own_rds 2 rfl) (by first | rfl | simp) (by first | rfl | simp) (by omega) (by omega) (by decide) fun A' c' => ?_)
            | (refine z_front rfl 3 rfl ?_; refine o_append rfl tabOk zeroOk rfl rfl rfl rfl rfl rfl (by first | assumption | exact Rds.cons _ (by assumption) | exact Rds.cons _ (Rds.cons _ (by assumption)) | exact own_rds 0 rfl | exact own_rds 1 rfl | exact own_rds 2 rfl) (by first | rfl | simp) (by first | rfl | simp) (by omega) (by omega) (by decide) fun A' c' => ?_)
            | (refine z_front rfl 4 rfl ?_; refine o_append rfl tabOk zeroOk rfl rfl rfl rfl rfl rfl (by first | assumption | exact Rds.cons _ (by assumption) | exact Rds.cons _ (Rds.cons _ (by assumption)) | exact own_rds 0 rfl | exact own_rds 1 rfl | exact own_rds 2 rfl) (by first | rfl | simp) (by first | rfl | simp) (by omega) (by omega) (by decide) fun A' c' => ?_)
            | (refine z_front rfl 5 rfl ?_; refine o_append rfl tabOk zeroOk rfl rfl rfl rfl rfl rfl (by first | assumption | exact Rds.cons _ (by assumption) | exact Rds.cons _ (Rds.cons _ (by assumption)) | exact own_rds 0 rfl | exact own_rds 1 rfl | exact own_rds 2 rfl) (by first | rfl | simp) (by first | rfl | simp) (by omega) (by omega) (by decide) fun A' c' => ?_))
        | refine o_move rfl (by decide) ?_
        | refine o_assign rfl (by decide) ?_
        | refine o_nil rfl (by decide) ?_
        | refine o_extract rfl rfl (by decide) ?_
        | refine o_not rfl (by decide) ?_
        | refine o_field0 tabOk rfl rfl rfl rfl rfl (by decide) ?_
        | refine o_field tabOk rfl rfl rfl rfl rfl (by decide) ?_
        | refine o_conv tabOk rfl rfl rfl (by decide) ?_))
theorem aw_first : Pf Try.prog 15 [.agg (bm (takeB (fun _ => 0) 9 true)).toArray, .int .i64 9, .int .i64 20] (.tuple #[.int .i64 10, .bool true]) := by
  have := first_fn (takeB (fun _ => 0) 9 true) (By.takeB (fun _ => ⟨Int.le_refl _, by show (0 : Int) ≤ 255; decide⟩) _ _) 9 20
  rwa [show firstV (takeB (fun _ => 0) 9 true) 9 20 = some 10 by decide +kernel] at this
theorem awake24 : Pf Try.prog 18 [] (.bool true) := by
  intro w hw
  refine f_enter Try.func18 rfl Try.ntmps18 rfl hw ?_
  have hb0 : By (fun _ => 0) := fun _ => ⟨Int.le_refl _, by show (0 : Int) ≤ 255; decide⟩
  have hb1 : By (takeB (fun _ => 0) 9 true) := hb0.takeB _ _
  have h2 : takeB (fun _ => 0) 9 true (Int.toNat 1) = 2 := by decide +kernel
  repeat' (first
    | (refine s_is ?_; first
        | (refine s_isret ?_; first
            | exact p_r1 rfl (res_t rfl))
        | (refine s_isw ?_; first
            | refine c_seq ?_
            | refine c_block ?_
            | refine c_region ?_
            | refine c_mixed mixed (by kernel_rfl) ?_
            | refine c_skip ?_
            | refine c_ret ?_
            | refine c_exit ?_
            | (refine s_iscond ?_; first
                | (refine c_true rfl (by first | with_reducible rfl | ((with_reducible refine decide_eq_true ?_); first | with_reducible rfl | with_reducible assumption | omega) | (simp only [Bool.not_eq_true', decide_eq_false_iff_not]; omega) | (with_reducible assumption) | (rw [decide_eq_false] <;> (first | omega | with_reducible rfl)) | (rw [decide_eq_true] <;> (first | omega | with_reducible rfl)) | (simp; done) | (simp; omega)) ?_)
                | (refine c_false rfl (by first | with_reducible rfl | ((with_reducible refine decide_eq_false ?_); first | with_reducible assumption | omega) | (simp only [Bool.not_eq_false', decide_eq_true_eq]; omega) | (with_reducible assumption) | (rw [decide_eq_false] <;> (first | omega | with_reducible rfl)) | (rw [decide_eq_true] <;> (first | omega | with_reducible rfl)) | (simp; done) | (simp; omega)) ?_)
                | refine c_cond rfl (fun hc => ?_) (fun hc => ?_)
                | refine c_condb rfl (fun hc => ?_) (fun hc => ?_)))
        | refine x_then ?_
        | refine x_then_ret ?_
        | refine x_then_exit ?_
        | refine x_block _ ?_
        | refine x_block_ret _ ?_
        | refine x_block_exit _ ?_
        | refine x_block_past (by decide) ?_
        | refine z_tailm ?_)
    | (refine z_isguard ?_; first
        | (refine z_want rfl rfl (by first | with_reducible rfl | ((with_reducible refine decide_eq_true ?_); first | with_reducible rfl | with_reducible assumption | omega) | ((with_reducible refine decide_eq_false ?_); first | with_reducible assumption | omega) | (simp only [Bool.not_eq_true', Bool.not_eq_false', decide_eq_false_iff_not, decide_eq_true_eq]; omega) | (with_reducible assumption) | (rw [decide_eq_false] <;> (first | omega | with_reducible rfl)) | (rw [decide_eq_true] <;> (first | omega | with_reducible rfl)) | (simp; done) | (simp; omega)) ?_)
        | (refine z_skip (by decide) rfl rfl (by first | with_reducible rfl | ((with_reducible refine decide_eq_true ?_); first | with_reducible rfl | with_reducible assumption | omega) | ((with_reducible refine decide_eq_false ?_); first | with_reducible assumption | omega) | (simp only [Bool.not_eq_true', Bool.not_eq_false', decide_eq_false_iff_not, decide_eq_true_eq]; omega) | (with_reducible assumption) | (rw [decide_eq_false] <;> (first | omega | with_reducible rfl)) | (rw [decide_eq_true] <;> (first | omega | with_reducible rfl)) | (simp; done) | (simp; omega)) ?_)
        | refine z_skipu (by decide) rfl rfl ?_
        | refine z_guard1 (by decide) rfl rfl (fun hc => ?_) (fun hc => ?_)
        | refine z_guard0 (by decide) rfl rfl (fun hc => ?_) (fun hc => ?_)
        | refine z_guardb (by decide) rfl rfl (fun hc => ?_) (fun hc => ?_))
    | (refine z_isnil ?_; first
        | refine z_list ?_
        | refine z_mixed ?_
        | refine z_mono0 ?_
        | refine z_mono1 (by decide) fun g => ?_
        | refine z_mono2 (by decide) (by decide) fun g g' => ?_
        | refine z_mixedx ?_
        | refine z_quiet ?_)
    | (refine z_isop ?_; first
        | refine o_build (v := .agg (bm (fun _ => 0)).toArray) rfl (fun _ => by kernel_rfl) (by decide) ?_
        | refine o_boxa rfl rfl (by decide) fun g => ?_
        | refine o_alloca (e := 26) (vs := bm (fun _ => 0)) rfl (by kernel_rfl) (by decide) fun g => ?_
        | refine o_alloca (e := 24) (vs := bm (fun _ => 0)) rfl (by kernel_rfl) (by decide) fun g => ?_
        | refine o_alloca (e := 23) (vs := bm (fun _ => 0)) rfl (by kernel_rfl) (by decide) fun g => ?_
        | refine o_alloca (e := 49) (vs := rm (fun _ => false)) rfl (by kernel_rfl) (by decide) fun g => ?_
        | (refine z_isbin ?_; first
            | (refine z_isb .add ?_; first
                | refine o_add rfl rfl (by omega) (by omega) (by decide) ?_
                | refine o_addw rfl rfl (by decide) ?_)
            | (refine z_isb .sub ?_; first
                | refine o_sub rfl rfl (by omega) (by omega) (by decide) ?_
                | refine o_subw rfl rfl (by decide) ?_)
            | (refine z_isb .mul ?_; first
                | refine o_mul rfl rfl (by omega) (by omega) (by decide) ?_
                | refine o_mulw rfl rfl (by decide) ?_)
            | (refine z_isb .eql ?_; first
                | refine o_eq rfl rfl (by decide) ?_
                | refine o_beq tabOk rfl rfl rfl (by decide) ?_
                | refine o_peq tabOk rfl rfl (by decide) ?_)
            | (refine z_isb .neq ?_; first
                | refine o_ne rfl rfl (by decide) ?_
                | refine o_bne tabOk rfl rfl rfl (by decide) ?_
                | refine o_pne tabOk rfl rfl (by decide) ?_)
            | (refine z_isb .lss ?_; first
                | refine o_lt rfl rfl (by decide) ?_)
            | (refine z_isb .leq ?_; first
                | refine o_le rfl rfl (by decide) ?_)
            | (refine z_isb .gtr ?_; first
                | refine o_gt rfl rfl (by decide) ?_)
            | (refine z_isb .geq ?_; first
                | refine o_ge rfl rfl (by decide) ?_)
            | (refine z_isb .quo ?_; first
                | refine o_quo rfl rfl (by omega) (by omega) (by omega) (by decide) ?_
                | refine o_quo8 rfl rfl (by omega) (by omega) (by omega) (by decide) ?_
                | refine o_quot rfl rfl (by omega) (by decide) ?_)
            | (refine z_isb .rem ?_; first
                | refine o_rem rfl rfl (by omega) (by omega) (by decide) ?_
                | refine o_remk rfl rfl (by omega) (by omega) (by decide) ?_
                | refine o_remt rfl rfl (by omega) (by decide) ?_)
            | (refine z_isb .and ?_; first
                | refine o_and rfl rfl (by decide) ?_)
            | (refine z_isb .or ?_; first
                | refine o_or rfl rfl (by decide) ?_)
            | (refine z_isb .andNot ?_; first
                | refine o_andNot rfl rfl (by decide) ?_)
            | (refine z_isb .shl ?_; first
                | refine o_shl rfl rfl (by omega) (by decide) ?_)
            | (refine z_isb .shr ?_; first
                | refine o_shr rfl rfl (by omega) (by decide) ?_))
        | (refine z_isload ?_; first
            | (refine z_ld1 tabOk rfl rfl ?_; first
                | ((refine z_ldi 0 rfl rfl ?_; refine o_load tabOk rfl rfl rfl 0 rfl (by first | exact bm_at _ (by omega) | exact rm_at _ (by omega) | rfl) (by decide) ?_))
                | ((refine z_ldi 1 rfl rfl ?_; refine o_load tabOk rfl rfl rfl 1 rfl (by first | exact bm_at _ (by omega) | exact rm_at _ (by omega) | rfl) (by decide) ?_))
                | ((refine z_ldi 2 rfl rfl ?_; refine o_load tabOk rfl rfl rfl 2 rfl (by first | exact bm_at _ (by omega) | exact rm_at _ (by omega) | rfl) (by decide) ?_))
                | ((refine z_ldi 3 rfl rfl ?_; refine o_load tabOk rfl rfl rfl 3 rfl (by first | exact bm_at _ (by omega) | exact rm_at _ (by omega) | rfl) (by decide) ?_))
                | ((refine z_ldi 4 rfl rfl ?_; refine o_load tabOk rfl rfl rfl 4 rfl (by first | exact bm_at _ (by omega) | exact rm_at _ (by omega) | rfl) (by decide) ?_))
                | ((refine z_ldi 5 rfl rfl ?_; refine o_load tabOk rfl rfl rfl 5 rfl (by first | exact bm_at _ (by omega) | exact rm_at _ (by omega) | rfl) (by decide) ?_))
                | ((refine z_ldi 6 rfl rfl ?_; refine o_load tabOk rfl rfl rfl 6 rfl (by first | exact bm_at _ (by omega) | exact rm_at _ (by omega) | rfl) (by decide) ?_))
                | refine o_loads tabOk (by first | assumption | exact Rds.cons _ (by assumption) | exact Rds.cons _ (Rds.cons _ (by assumption)) | exact own_rds 0 rfl | exact own_rds 1 rfl | exact own_rds 2 rfl) rfl rfl rfl (by first | exact bm_at _ (by omega) | exact rm_at _ (by omega) | rfl) (by decide) ?_)
            | (refine z_ldw tabOk rfl rfl ?_; first
                | ((refine z_ldi 0 rfl rfl ?_; refine o_loadw tabOk rfl rfl rfl 0 rfl (by first | exact bm_len _ | exact rm_len _ | (simp only [bm_len, rm_len]) | rfl) (by decide) ?_))
                | ((refine z_ldi 1 rfl rfl ?_; refine o_loadw tabOk rfl rfl rfl 1 rfl (by first | exact bm_len _ | exact rm_len _ | (simp only [bm_len, rm_len]) | rfl) (by decide) ?_))
                | ((refine z_ldi 2 rfl rfl ?_; refine o_loadw tabOk rfl rfl rfl 2 rfl (by first | exact bm_len _ | exact rm_len _ | (simp only [bm_len, rm_len]) | rfl) (by decide) ?_))
                | ((refine z_ldi 3 rfl rfl ?_; refine o_loadw tabOk rfl rfl rfl 3 rfl (by first | exact bm_len _ | exact rm_len _ | (simp only [bm_len, rm_len]) | rfl) (by decide) ?_))
                | ((refine z_ldi 4 rfl rfl ?_; refine o_loadw tabOk rfl rfl rfl 4 rfl (by first | exact bm_len _ | exact rm_len _ | (simp only [bm_len, rm_len]) | rfl) (by decide) ?_))
                | ((refine z_ldi 5 rfl rfl ?_; refine o_loadw tabOk rfl rfl rfl 5 rfl (by first | exact bm_len _ | exact rm_len _ | (simp only [bm_len, rm_len]) | rfl) (by decide) ?_))
                | ((refine z_ldi 6 rfl rfl ?_; refine o_loadw tabOk rfl rfl rfl 6 rfl (by first | exact bm_len _ | exact rm_len _ | (simp only [bm_len, rm_len]) | rfl) (by decide) ?_))))
        | (refine z_isstore ?_; first
            | (refine z_stw rfl ?_; first
                | ((refine z_sti 0 rfl rfl ?_; refine o_storeb0 rfl tabOk rfl rfl rfl (by first | exact bm_len _ | exact rm_len _ | (simp only [bm_len, rm_len]) | rfl) (by first | exact bm_one _ | exact rm_one _ | rfl) (by first | exact bm_len _ | exact rm_len _ | (simp only [bm_len, rm_len]) | rfl) ?_))
                | ((refine z_sti 1 rfl rfl ?_; refine o_storeb1 rfl tabOk rfl rfl rfl (by first | exact bm_len _ | exact rm_len _ | (simp only [bm_len, rm_len]) | rfl) (by first | exact bm_one _ | exact rm_one _ | rfl) (by first | exact bm_len _ | exact rm_len _ | (simp only [bm_len, rm_len]) | rfl) ?_))
                | ((refine z_sti 2 rfl rfl ?_; refine o_storeb2 rfl tabOk rfl rfl rfl (by first | exact bm_len _ | exact rm_len _ | (simp only [bm_len, rm_len]) | rfl) (by first | exact bm_one _ | exact rm_one _ | rfl) (by first | exact bm_len _ | exact rm_len _ | (simp only [bm_len, rm_len]) | rfl) ?_))
                | ((refine z_sti 3 rfl rfl ?_; refine o_storeb3 rfl tabOk rfl rfl rfl (by first | exact bm_len _ | exact rm_len _ | (simp only [bm_len, rm_len]) | rfl) (by first | exact bm_one _ | exact rm_one _ | rfl) (by first | exact bm_len _ | exact rm_len _ | (simp only [bm_len, rm_len]) | rfl) ?_))
                | ((refine z_sti 4 rfl rfl ?_; refine o_storeb4 rfl tabOk rfl rfl rfl (by first | exact bm_len _ | exact rm_len _ | (simp only [bm_len, rm_len]) | rfl) (by first | exact bm_one _ | exact rm_one _ | rfl) (by first | exact bm_len _ | exact rm_len _ | (simp only [bm_len, rm_len]) | rfl) ?_))
                | ((refine z_sti 5 rfl rfl ?_; refine o_storeb5 rfl tabOk rfl rfl rfl (by first | exact bm_len _ | exact rm_len _ | (simp only [bm_len, rm_len]) | rfl) (by first | exact bm_one _ | exact rm_one _ | rfl) (by first | exact bm_len _ | exact rm_len _ | (simp only [bm_len, rm_len]) | rfl) ?_))
                | ((refine z_sti 6 rfl rfl ?_; refine o_storeb6 rfl tabOk rfl rfl rfl (by first | exact bm_len _ | exact rm_len _ | (simp only [bm_len, rm_len]) | rfl) (by first | exact bm_one _ | exact rm_one _ | rfl) (by first | exact bm_len _ | exact rm_len _ | (simp only [bm_len, rm_len]) | rfl) ?_)))
            | (refine z_st1 rfl rfl ?_; first
                | refine o_store rfl tabOk rfl rfl rfl rfl rfl (by first | exact bm_at _ (by omega) | exact rm_at _ (by omega) | rfl) (by first | exact bm_set _ _ _ | exact rm_set _ _ _ | rfl) ?_
                | ((refine z_sti 1 rfl rfl ?_; refine o_store1 rfl tabOk rfl rfl rfl rfl rfl (by first | exact bm_at _ (by omega) | exact rm_at _ (by omega) | rfl) (by first | exact bm_set _ _ _ | exact rm_set _ _ _ | rfl) ?_))
                | ((refine z_sti 2 rfl rfl ?_; refine o_store2 rfl tabOk rfl rfl rfl rfl rfl (by first | exact bm_at _ (by omega) | exact rm_at _ (by omega) | rfl) (by first | exact bm_set _ _ _ | exact rm_set _ _ _ | rfl) ?_))
                | ((refine z_sti 3 rfl rfl ?_; refine o_store3 rfl tabOk rfl rfl rfl rfl rfl (by first | exact bm_at _ (by omega) | exact rm_at _ (by omega) | rfl) (by first | exact bm_set _ _ _ | exact rm_set _ _ _ | rfl) ?_))
                | ((refine z_sti 4 rfl rfl ?_; refine o_store4 rfl tabOk rfl rfl rfl rfl rfl (by first | exact bm_at _ (by omega) | exact rm_at _ (by omega) | rfl) (by first | exact bm_set _ _ _ | exact rm_set _ _ _ | rfl) ?_))
                | ((refine z_sti 5 rfl rfl ?_; refine o_store5 rfl tabOk rfl rfl rfl rfl rfl (by first | exact bm_at _ (by omega) | exact rm_at _ (by omega) | rfl) (by first | exact bm_set _ _ _ | exact rm_set _ _ _ | rfl) ?_))
                | ((refine z_sti 6 rfl rfl ?_; refine o_store6 rfl tabOk rfl rfl rfl rfl rfl (by first | exact bm_at _ (by omega) | exact rm_at _ (by omega) | rfl) (by first | exact bm_set _ _ _ | exact rm_set _ _ _ | rfl) ?_))))
        | (refine z_isfield ?_; first
            | refine o_fv tabOk rfl rfl rfl rfl rfl (by first | exact bm_at _ (by omega) | exact rm_at _ (by omega) | rfl) (by decide) ?_
            | refine o_fvw tabOk rfl rfl rfl rfl rfl (by first | exact bm_len _ | exact rm_len _ | (simp only [bm_len, rm_len]) | rfl) (by decide) ?_)
        | (refine z_isindex ?_; first
            | refine o_ixv tabOk rfl rfl rfl rfl rfl (by omega) (by omega) (by first | exact bm_at _ (by omega) | exact rm_at _ (by omega) | rfl) (by decide) ?_)
        | (refine z_ismakes ?_; first
            | refine o_make1 rfl tabOk zeroOk rfl rfl rfl rfl rfl (by decide) fun g => ?_)
        | (refine z_iscall ?_; first
            | refine o_fn rfl Try.func15 rfl rfl rfl aw_first (by decide) ?_
            | ((refine z_iscallf 44 ?_; refine o_fn rfl Try.func44 rfl rfl rfl (in_fn _) (by decide) ?_))
            | ((refine z_iscallf 16 ?_; refine o_fn rfl Try.func16 rfl rfl rfl (has_fn _ (by assumption) _) (by decide) ?_))
            | ((refine z_iscallf 17 ?_; refine o_fn rfl Try.func17 rfl rfl rfl (take_fn _ (by assumption) _) (by decide) ?_))
            | ((refine z_iscallf 25 ?_; refine o_fn rfl Try.func25 rfl rfl rfl (free_fn _ (by assumption) _) (by decide) ?_))
            | ((refine z_iscallf 12 ?_; refine o_fn rfl Try.func12 rfl rfl rfl (of_fn _) (by decide) ?_))
            | ((refine z_iscallf 24 ?_; refine o_fn rfl Try.func24 rfl rfl rfl (block_fn _) (by decide) ?_))
            | ((refine z_iscallf 43 ?_; refine o_fn rfl Try.func43 rfl rfl rfl (ones_fn _ (hr _).1 (hr _).2) (by decide) ?_))
            | ((refine z_iscallf 15 ?_; refine o_fn rfl Try.func15 rfl rfl rfl (first_fn _ (by assumption) _ _) (by decide) ?_))
            | ((refine z_iscallf 14 ?_; refine o_fn rfl Try.func14 rfl rfl rfl (count_fn _ (by assumption) _ _) (by decide) ?_)))
        | (refine z_ispick ?_; first
            | (refine o_pick1 rfl (by first | with_reducible rfl | ((with_reducible refine decide_eq_true ?_); first | with_reducible rfl | with_reducible assumption | omega) | (simp only [Bool.not_eq_true', decide_eq_false_iff_not]; omega) | (with_reducible assumption) | (rw [decide_eq_false] <;> (first | omega | with_reducible rfl)) | (rw [decide_eq_true] <;> (first | omega | with_reducible rfl)) | (simp; done) | (simp; omega)) rfl (by decide) ?_)
            | (refine o_pick0 rfl (by first | with_reducible rfl | ((with_reducible refine decide_eq_false ?_); first | with_reducible assumption | omega) | (simp only [Bool.not_eq_false', decide_eq_true_eq]; omega) | (with_reducible assumption) | (rw [decide_eq_false] <;> (first | omega | with_reducible rfl)) | (rw [decide_eq_true] <;> (first | omega | with_reducible rfl)) | (simp; done) | (simp; omega)) rfl (by decide) ?_))
        | (refine z_isix ?_; first
            | refine o_index0 tabOk rfl rfl rfl rfl (by omega) (by omega) (by decide) ?_
            | refine o_index1 tabOk rfl rfl rfl rfl (by omega) (by omega) (by decide) ?_
            | refine o_indexsk tabOk rfl rfl rfl rfl (by omega) (by omega) (by decide) ?_
            | refine o_indexs1 tabOk (by first | assumption) rfl rfl rfl rfl (by omega) (by omega) (by decide) ?_)
        | (refine z_isslice ?_; first
            | refine o_slice tabOk rfl rfl rfl rfl rfl (by omega) (by omega) (by omega) (by decide) ?_
            | refine o_slicel tabOk rfl rfl rfl rfl (by omega) (by omega) (by omega) (by decide) ?_
            | refine o_sliceh tabOk rfl rfl rfl rfl (by omega) (by omega) (by decide) ?_
            | refine o_slp tabOk rfl rfl rfl rfl rfl (by omega) (by omega) (by omega) (by omega) (by decide) ?_
            | refine o_slpl tabOk rfl rfl rfl rfl (by omega) (by omega) (by decide) ?_
            | refine o_slp0 tabOk rfl rfl rfl rfl (by decide) ?_)
        | (refine z_isbi ?_; first
            | refine o_len tabOk rfl rfl (by decide) ?_
            | refine o_min rfl rfl (by decide) ?_
            | refine o_max rfl rfl (by decide) ?_
            | refine o_append rfl tabOk zeroOk rfl rfl rfl rfl rfl rfl (by first | assumption | exact Rds.cons _ (by assumption) | exact Rds.cons _ (Rds.cons _ (by assumption)) | exact own_rds 0 rfl | exact own_rds 1 rfl | exact own_rds 2 rfl) (by first | rfl | simp) (by first | rfl | simp) (by omega) (by omega) (by decide) fun A' c' => ?_
            | (refine z_front rfl 1 rfl ?_; refine o_append rfl tabOk zeroOk rfl rfl rfl rfl rfl rfl (by first | assumption | exact Rds.cons _ (by assumption) | exact Rds.cons _ (Rds.cons _ (by assumption)) | exact own_rds 0 rfl | exact own_rds 1 rfl | exact own_rds 2 rfl) (by first | rfl | simp) (by first | rfl | simp) (by omega) (by omega) (by decide) fun A' c' => ?_)
            | (refine z_front rfl 2 rfl ?_; refine o_append rfl tabOk zeroOk rfl rfl rfl rfl rfl rfl (by first | assumption | exact Rds.cons _ (by assumption) | exact Rds.cons _ (Rds.cons _ (by assumption)) | exact own_rds 0 rfl | exact own_rds 1 rfl | exact own_rds 2 rfl) (by first | rfl | simp) (by first | rfl | simp) (by omega) (by omega) (by decide) fun A' c' => ?_)
            | (refine z_front rfl 3 rfl ?_; refine o_append rfl tabOk zeroOk rfl rfl rfl rfl rfl rfl (by first | assumption | exact Rds.cons _ (by assumption) | exact Rds.cons _ (Rds.cons _ (by assumption)) | exact own_rds 0 rfl | exact own_rds 1 rfl | exact own_rds 2 rfl) (by first | rfl | simp) (by first | rfl | simp) (by omega) (by omega) (by decide) fun A' c' => ?_)
            | (refine z_front rfl 4 rfl ?_; refine o_append rfl tabOk zeroOk rfl rfl rfl rfl rfl rfl (by first | assumption | exact Rds.cons _ (by assumption) | exact Rds.cons _ (Rds.cons _ (by assumption)) | exact own_rds 0 rfl | exact own_rds 1 rfl | exact own_rds 2 rfl) (by first | rfl | simp) (by first | rfl | simp) (by omega) (by omega) (by decide) fun A' c' => ?_)
            | (refine z_front rfl 5 rfl ?_; refine o_append rfl tabOk zeroOk rfl rfl rfl rfl rfl rfl (by first | assumption | exact Rds.cons _ (by assumption) | exact Rds.cons _ (Rds.cons _ (by assumption)) | exact own_rds 0 rfl | exact own_rds 1 rfl | exact own_rds 2 rfl) (by first | rfl | simp) (by first | rfl | simp) (by omega) (by omega) (by decide) fun A' c' => ?_))
        | refine o_move rfl (by decide) ?_
        | refine o_assign rfl (by decide) ?_
        | refine o_nil rfl (by decide) ?_
        | refine o_extract rfl rfl (by decide) ?_
        | refine o_not rfl (by decide) ?_
        | refine o_field0 tabOk rfl rfl rfl rfl rfl (by decide) ?_
        | refine o_field tabOk rfl rfl rfl rfl rfl (by decide) ?_
        | refine o_conv tabOk rfl rfl rfl (by decide) ?_))
end Go.Proofs.Ytjejnlfbonpfaaa
