/-
Taking the first one that is free, again and again, takes all: the law, walked.
-/
import Derived.Test.YtjejnlfbonpfaaaBit3
namespace Go.Proofs.Ytjejnlfbonpfaaa
set_option linter.unusedVariables false
set_option linter.unusedSimpArgs false
open Eng
attribute [local irreducible] Eng.Hold Eng.Z Eng.S bm rm hasB tb takeB firstV countV rfirst rcount Eng.old Eng.cells Eng.own
theorem first_is {r : Nat → Int} (hr : By r) {f t : Int} {o : Option Nat} (h : firstV r f t = o) : Pf Try.prog 15 [.agg (bm r).toArray, .int .i64 f, .int .i64 t] (foundV o) := h ▸ first_fn r hr f t
theorem count_le (r : Nat → Int) {f t : Int} (hf : 0 ≤ f) (ht : t ≤ 511) : countV r f t ≤ (t - f).toNat := by
  unfold countV
  have := cn_le (tb r) (max f 0).toNat ((min t 512).toNat - (max f 0).toNat)
  omega
theorem tb_take {r : Nat → Int} (hr : By r) {k : Nat} (hk : k < 512) (b : Bool) : tb (takeB r k b) = fun j => if j = k then b else tb r j := by
  funext j
  unfold takeB
  rw [if_pos (by omega), Int.toNat_natCast, tb_setb hr]
theorem fills_step {r : Nat → Int} (hr : By r) {f t : Int} (hf : 0 ≤ f) (ht : t ≤ 511) (h : countV r f t < (t - f).toNat) :
    ∃ k, firstV r f t = some k ∧ f ≤ (k : Int) ∧ (k : Int) < t ∧ hasB r k = false ∧ countV (takeB r k true) f t = countV r f t + 1 := by
  cases hk : firstV r f t with
  | none =>
    unfold firstV at hk
    rw [ff_none] at hk
    unfold countV at h
    omega
  | some k =>
    unfold firstV at hk
    obtain ⟨h1, h2, h3⟩ := ff_some hk
    have hk5 : k < 512 := by omega
    refine ⟨k, rfl, by omega, by omega, by rw [hasB_nat r hk5]; exact h3, ?_⟩
    unfold countV
    rw [tb_take hr hk5, cn_upd h3 h1, if_pos h2]
theorem fills_end {r : Nat → Int} {f t : Int} (hf : 0 ≤ f) (ht : t ≤ 511) (h : countV r f t = (t - f).toNat) : firstV r f t = none := by
  unfold firstV
  rw [ff_none]
  unfold countV at h
  omega
set_option maxHeartbeats 1000000 in
theorem bitmapFills (W : World) (A0 : Option Addr) (c0 : Nat) (xs : List Int) (f0 t0 : Int) (hrd : Rds [old W] A0 (u8l xs)) (hx : xs.length ≤ 9223372036854775807) (hb : ∀ z ∈ xs, 0 ≤ z ∧ z ≤ 255) :
    Does Try.prog 3 [.slice A0 xs.length c0, .int .i64 f0, .int .i64 t0] [old W] (fun _ : Unit => True) (fun _ => .bool true) (fun _ => [old W]) := by
  intro w hw
  have hby := byF_by hb
  obtain ⟨hf, hf1⟩ := andm f0 511 (by decide)
  obtain ⟨ht, ht1⟩ := andm t0 511 (by decide)
  simp only [Int.cast_ofNat_Int] at hf hf1 ht ht1
  refine f_enter Try.func3 rfl Try.ntmps3 rfl hw ?_
  have hcl := count_le (byF xs) hf ht1
  generalize hfe : bitv .and .i64 f0 511 = f at *
  generalize hte : bitv .and .i64 t0 511 = t at *
  obtain ⟨L, hL⟩ : ∃ L, L + countV (byF xs) f t = (t - f).toNat := ⟨(t - f).toNat - countV (byF xs) f t, by omega⟩
  repeat' (first
    | (refine s_is ?_; first
        | (refine s_isw ?_; first
            | (refine s_isloop ?_; first
                | ((refine c_loop (X := (Nat → Int) × Nat) (fun y => y.2 ≤ L ∧ By y.1 ∧ countV y.1 f t + (L - y.2) = (t - f).toNat) (fun y => [(1, .int .i64 f), (2, .int .i64 t), (7, .pointer (some ⟨g, 0, none⟩)), (8, .int .i64 L), (9, .int .i64 y.2)]) (fun y => [cells g 26 (bm y.1), old W]) (fun y => L - y.2) (byF xs, 0) ⟨Nat.zero_le _, hby, by dsimp only; omega⟩ ⟨rfl, rfl, rfl, sli_eq (by omega), rfl, trivial⟩ (fun w h => h) (fun y hy => ?_); obtain ⟨r, i⟩ := y; dsimp only at hy ⊢; obtain ⟨hi, hr, hn⟩ := hy; refine hold ?_)))
            | refine c_seq ?_
            | refine c_block ?_
            | refine c_region ?_
            | refine c_mixed mixed (by kernel_rfl) ?_
            | refine c_skip ?_
            | refine c_ret ?_
            | refine c_exit ?_
            | (refine s_iscond ?_; first
                | (refine c_true rfl (by first | with_reducible rfl | ((with_reducible refine decide_eq_true ?_); first | with_reducible rfl | with_reducible assumption | omega) | (simp only [Bool.not_eq_true', decide_eq_false_iff_not]; omega) | (with_reducible assumption) | (rw [decide_eq_false] <;> (first | omega | with_reducible rfl)) | (rw [decide_eq_true] <;> (first | omega | with_reducible rfl)) | (simp; done) | (simp; omega)) ?_)
                | (refine c_false rfl (by first | with_reducible rfl | ((with_reducible refine decide_eq_false ?_); first | with_reducible assumption | omega) | (simp only [Bool.not_eq_false', decide_eq_true_eq]; omega) | (with_reducible assumption) | (rw [decide_eq_false] <;> (first | omega | with_reducible rfl)) | (rw [decide_eq_true] <;> (first | omega | with_reducible rfl)) | (simp; done) | (simp; omega)) ?_)
                | refine c_cond rfl (fun hc => ?_) (fun hc => ?_)
                | refine c_condb rfl (fun hc => ?_) (fun hc => ?_)))
        | refine x_then ?_
        | refine x_then_ret ?_
        | refine x_then_exit ?_
        | refine x_block _ ?_
        | refine x_block_ret _ ?_
        | refine x_block_exit _ ?_
        | refine x_block_past (by decide) ?_
        | refine z_tailm ?_)
    | (refine z_isguard ?_; first
        | (refine z_want rfl rfl (by first | with_reducible rfl | ((with_reducible refine decide_eq_true ?_); first | with_reducible rfl | with_reducible assumption | omega) | ((with_reducible refine decide_eq_false ?_); first | with_reducible assumption | omega) | (simp only [Bool.not_eq_true', Bool.not_eq_false', decide_eq_false_iff_not, decide_eq_true_eq]; omega) | (with_reducible assumption) | (rw [decide_eq_false] <;> (first | omega | with_reducible rfl)) | (rw [decide_eq_true] <;> (first | omega | with_reducible rfl)) | (simp; done) | (simp; omega)) ?_)
        | (refine z_skip (by decide) rfl rfl (by first | with_reducible rfl | ((with_reducible refine decide_eq_true ?_); first | with_reducible rfl | with_reducible assumption | omega) | ((with_reducible refine decide_eq_false ?_); first | with_reducible assumption | omega) | (simp only [Bool.not_eq_true', Bool.not_eq_false', decide_eq_false_iff_not, decide_eq_true_eq]; omega) | (with_reducible assumption) | (rw [decide_eq_false] <;> (first | omega | with_reducible rfl)) | (rw [decide_eq_true] <;> (first | omega | with_reducible rfl)) | (simp; done) | (simp; omega)) ?_)
        | refine z_skipu (by decide) rfl rfl ?_
        | refine z_guard1 (by decide) rfl rfl (fun hc => ?_) (fun hc => ?_)
        | refine z_guard0 (by decide) rfl rfl (fun hc => ?_) (fun hc => ?_)
        | refine z_guardb (by decide) rfl rfl (fun hc => ?_) (fun hc => ?_))
    | (refine z_isnil ?_; first
        | refine z_list ?_
        | refine z_mixed ?_
        | refine z_mono0 ?_
        | refine z_mono1 (by decide) fun g => ?_
        | refine z_mono2 (by decide) (by decide) fun g g' => ?_
        | refine z_mixedx ?_
        | refine z_quiet ?_)
    | (refine z_isop ?_; first
        | refine o_boxa rfl rfl (by decide) fun g => ?_
        | refine o_alloca (e := 26) (vs := bm (fun _ => 0)) rfl (by kernel_rfl) (by decide) fun g => ?_
        | refine o_alloca (e := 24) (vs := bm (fun _ => 0)) rfl (by kernel_rfl) (by decide) fun g => ?_
        | refine o_alloca (e := 23) (vs := bm (fun _ => 0)) rfl (by kernel_rfl) (by decide) fun g => ?_
        | refine o_alloca (e := 49) (vs := rm (fun _ => false)) rfl (by kernel_rfl) (by decide) fun g => ?_
        | refine m_alloca (e := 26) (vs := bm (fun _ => 0)) (by kernel_rfl) ?_
        | (refine z_isbin ?_; first
            | refine o_ande hfe rfl rfl (by decide) ?_
            | refine o_ande hte rfl rfl (by decide) ?_
            | refine o_add rfl rfl (by omega) (by omega) (by decide) ?_
            | refine o_sub rfl rfl (by omega) (by omega) (by decide) ?_
            | refine o_mul rfl rfl (by omega) (by omega) (by decide) ?_
            | refine o_eq rfl rfl (by decide) ?_
            | refine o_ne rfl rfl (by decide) ?_
            | refine o_lt rfl rfl (by decide) ?_
            | refine o_le rfl rfl (by decide) ?_
            | refine o_gt rfl rfl (by decide) ?_
            | refine o_ge rfl rfl (by decide) ?_
            | refine o_quo rfl rfl (by omega) (by omega) (by omega) (by decide) ?_
            | refine o_rem rfl rfl (by omega) (by omega) (by decide) ?_
            | refine o_quo8 rfl rfl (by omega) (by omega) (by omega) (by decide) ?_
            | refine o_remk rfl rfl (by omega) (by omega) (by decide) ?_
            | refine o_and rfl rfl (by decide) ?_
            | refine o_or rfl rfl (by decide) ?_
            | refine o_andNot rfl rfl (by decide) ?_
            | refine o_shl rfl rfl (by omega) (by decide) ?_
            | refine o_shr rfl rfl (by omega) (by decide) ?_
            | refine o_beq tabOk rfl rfl rfl (by decide) ?_
            | refine o_bne tabOk rfl rfl rfl (by decide) ?_
            | refine o_peq tabOk rfl rfl (by decide) ?_
            | refine o_pne tabOk rfl rfl (by decide) ?_
            | refine o_addw rfl rfl (by decide) ?_
            | refine o_subw rfl rfl (by decide) ?_
            | refine o_mulw rfl rfl (by decide) ?_
            | refine o_remt rfl rfl (by omega) (by decide) ?_
            | refine o_quot rfl rfl (by omega) (by decide) ?_)
        | (refine z_isload ?_; first
            | refine o_load tabOk rfl rfl rfl 0 rfl (by first | exact bm_at _ (by omega) | exact rm_at _ (by omega) | rfl) (by decide) ?_
            | refine o_load tabOk rfl rfl rfl 1 rfl (by first | exact bm_at _ (by omega) | exact rm_at _ (by omega) | rfl) (by decide) ?_
            | refine o_load tabOk rfl rfl rfl 2 rfl (by first | exact bm_at _ (by omega) | exact rm_at _ (by omega) | rfl) (by decide) ?_
            | refine o_load tabOk rfl rfl rfl 3 rfl (by first | exact bm_at _ (by omega) | exact rm_at _ (by omega) | rfl) (by decide) ?_
            | refine o_load tabOk rfl rfl rfl 4 rfl (by first | exact bm_at _ (by omega) | exact rm_at _ (by omega) | rfl) (by decide) ?_
            | refine o_load tabOk rfl rfl rfl 5 rfl (by first | exact bm_at _ (by omega) | exact rm_at _ (by omega) | rfl) (by decide) ?_
            | refine o_load tabOk rfl rfl rfl 6 rfl (by first | exact bm_at _ (by omega) | exact rm_at _ (by omega) | rfl) (by decide) ?_
            | refine o_loadw tabOk rfl rfl rfl 0 rfl (by first | exact bm_len _ | exact rm_len _ | (simp only [bm_len, rm_len]) | rfl) (by decide) ?_
            | refine o_loadw tabOk rfl rfl rfl 1 rfl (by first | exact bm_len _ | exact rm_len _ | (simp only [bm_len, rm_len]) | rfl) (by decide) ?_
            | refine o_loadw tabOk rfl rfl rfl 2 rfl (by first | exact bm_len _ | exact rm_len _ | (simp only [bm_len, rm_len]) | rfl) (by decide) ?_
            | refine o_loadw tabOk rfl rfl rfl 3 rfl (by first | exact bm_len _ | exact rm_len _ | (simp only [bm_len, rm_len]) | rfl) (by decide) ?_
            | refine o_loadw tabOk rfl rfl rfl 4 rfl (by first | exact bm_len _ | exact rm_len _ | (simp only [bm_len, rm_len]) | rfl) (by decide) ?_
            | refine o_loadw tabOk rfl rfl rfl 5 rfl (by first | exact bm_len _ | exact rm_len _ | (simp only [bm_len, rm_len]) | rfl) (by decide) ?_
            | refine o_loadw tabOk rfl rfl rfl 6 rfl (by first | exact bm_len _ | exact rm_len _ | (simp only [bm_len, rm_len]) | rfl) (by decide) ?_
            | refine o_loads tabOk (by first | assumption | exact Rds.cons _ (by assumption) | exact Rds.cons _ (Rds.cons _ (by assumption)) | exact own_rds 0 rfl | exact own_rds 1 rfl | exact own_rds 2 rfl) rfl rfl rfl (by first | exact bm_at _ (by omega) | exact rm_at _ (by omega) | rfl) (by decide) ?_)
        | (refine z_isstore ?_; first
            | refine o_store rfl tabOk rfl rfl rfl rfl rfl (by first | exact bm_at _ (by omega) | exact rm_at _ (by omega) | rfl) (by first | exact bm_set _ _ _ | exact rm_set _ _ _ | rfl) ?_
            | refine o_store_at rfl 1 tabOk rfl rfl rfl rfl rfl rfl (by first | exact bm_at _ (by omega) | exact rm_at _ (by omega) | rfl) (by first | exact bm_set _ _ _ | exact rm_set _ _ _ | rfl) ?_
            | refine o_store_at rfl 2 tabOk rfl rfl rfl rfl rfl rfl (by first | exact bm_at _ (by omega) | exact rm_at _ (by omega) | rfl) (by first | exact bm_set _ _ _ | exact rm_set _ _ _ | rfl) ?_
            | refine o_store_at rfl 3 tabOk rfl rfl rfl rfl rfl rfl (by first | exact bm_at _ (by omega) | exact rm_at _ (by omega) | rfl) (by first | exact bm_set _ _ _ | exact rm_set _ _ _ | rfl) ?_
            | refine o_store_at rfl 4 tabOk rfl rfl rfl rfl rfl rfl (by first | exact bm_at _ (by omega) | exact rm_at _ (by omega) | rfl) (by first | exact bm_set _ _ _ | exact rm_set _ _ _ | rfl) ?_
            | refine o_store_at rfl 5 tabOk rfl rfl rfl rfl rfl rfl (by first | exact bm_at _ (by omega) | exact rm_at _ (by omega) | rfl) (by first | exact bm_set _ _ _ | exact rm_set _ _ _ | rfl) ?_
            | refine o_store_at rfl 6 tabOk rfl rfl rfl rfl rfl rfl (by first | exact bm_at _ (by omega) | exact rm_at _ (by omega) | rfl) (by first | exact bm_set _ _ _ | exact rm_set _ _ _ | rfl) ?_
            | refine o_storeb rfl 0 tabOk rfl rfl rfl rfl (by first | exact bm_len _ | exact rm_len _ | (simp only [bm_len, rm_len]) | rfl) (by first | exact bm_one _ | exact rm_one _ | rfl) (by first | exact bm_len _ | exact rm_len _ | (simp only [bm_len, rm_len]) | rfl) ?_
            | refine o_storeb rfl 1 tabOk rfl rfl rfl rfl (by first | exact bm_len _ | exact rm_len _ | (simp only [bm_len, rm_len]) | rfl) (by first | exact bm_one _ | exact rm_one _ | rfl) (by first | exact bm_len _ | exact rm_len _ | (simp only [bm_len, rm_len]) | rfl) ?_
            | refine o_storeb rfl 2 tabOk rfl rfl rfl rfl (by first | exact bm_len _ | exact rm_len _ | (simp only [bm_len, rm_len]) | rfl) (by first | exact bm_one _ | exact rm_one _ | rfl) (by first | exact bm_len _ | exact rm_len _ | (simp only [bm_len, rm_len]) | rfl) ?_
            | refine o_storeb rfl 3 tabOk rfl rfl rfl rfl (by first | exact bm_len _ | exact rm_len _ | (simp only [bm_len, rm_len]) | rfl) (by first | exact bm_one _ | exact rm_one _ | rfl) (by first | exact bm_len _ | exact rm_len _ | (simp only [bm_len, rm_len]) | rfl) ?_
            | refine o_storeb rfl 4 tabOk rfl rfl rfl rfl (by first | exact bm_len _ | exact rm_len _ | (simp only [bm_len, rm_len]) | rfl) (by first | exact bm_one _ | exact rm_one _ | rfl) (by first | exact bm_len _ | exact rm_len _ | (simp only [bm_len, rm_len]) | rfl) ?_
            | refine o_storeb rfl 5 tabOk rfl rfl rfl rfl (by first | exact bm_len _ | exact rm_len _ | (simp only [bm_len, rm_len]) | rfl) (by first | exact bm_one _ | exact rm_one _ | rfl) (by first | exact bm_len _ | exact rm_len _ | (simp only [bm_len, rm_len]) | rfl) ?_
            | refine o_storeb rfl 6 tabOk rfl rfl rfl rfl (by first | exact bm_len _ | exact rm_len _ | (simp only [bm_len, rm_len]) | rfl) (by first | exact bm_one _ | exact rm_one _ | rfl) (by first | exact bm_len _ | exact rm_len _ | (simp only [bm_len, rm_len]) | rfl) ?_)
        | (refine z_iscall ?_; first
            | refine o_call Try.func13 rfl rfl rfl (ofb_c xs _ _ [old W] hrd hx) (List.Perm.refl _) (by decide) fun _ _ => ?_
            | refine o_fn rfl Try.func44 rfl rfl rfl (in_fn _) (by decide) ?_
            | refine o_fn rfl Try.func16 rfl rfl rfl (has_fn _ (by assumption) _) (by decide) ?_
            | refine o_fn rfl Try.func17 rfl rfl rfl (take_fn _ (by assumption) _) (by decide) ?_
            | refine o_fn rfl Try.func25 rfl rfl rfl (free_fn _ (by assumption) _) (by decide) ?_
            | refine o_fn rfl Try.func12 rfl rfl rfl (of_fn _) (by decide) ?_
            | refine o_fn rfl Try.func24 rfl rfl rfl (block_fn _) (by decide) ?_
            | refine o_fn rfl Try.func14 rfl rfl rfl (count_fn _ (by assumption) _ _) (by decide) ?_
            | refine o_fn rfl Try.func18 rfl rfl rfl (awake24) (by decide) ?_)
        | (refine z_ispick ?_; first
            | (refine o_pick1 rfl (by first | with_reducible rfl | ((with_reducible refine decide_eq_true ?_); first | with_reducible rfl | with_reducible assumption | omega) | (simp only [Bool.not_eq_true', decide_eq_false_iff_not]; omega) | (with_reducible assumption) | (rw [decide_eq_false] <;> (first | omega | with_reducible rfl)) | (rw [decide_eq_true] <;> (first | omega | with_reducible rfl)) | (simp; done) | (simp; omega)) rfl (by decide) ?_)
            | (refine o_pick0 rfl (by first | with_reducible rfl | ((with_reducible refine decide_eq_false ?_); first | with_reducible assumption | omega) | (simp only [Bool.not_eq_false', decide_eq_true_eq]; omega) | (with_reducible assumption) | (rw [decide_eq_false] <;> (first | omega | with_reducible rfl)) | (rw [decide_eq_true] <;> (first | omega | with_reducible rfl)) | (simp; done) | (simp; omega)) rfl (by decide) ?_))
        | (refine z_isix ?_; first
            | refine o_index0 tabOk rfl rfl rfl rfl (by omega) (by omega) (by decide) ?_
            | refine o_index1 tabOk rfl rfl rfl rfl (by omega) (by omega) (by decide) ?_
            | refine o_indexsk tabOk rfl rfl rfl rfl (by omega) (by omega) (by decide) ?_
            | refine o_indexs1 tabOk (by first | assumption) rfl rfl rfl rfl (by omega) (by omega) (by decide) ?_)
        | (refine z_isslice ?_; first
            | refine o_slice tabOk rfl rfl rfl rfl rfl (by omega) (by omega) (by omega) (by decide) ?_
            | refine o_slicel tabOk rfl rfl rfl rfl (by omega) (by omega) (by omega) (by decide) ?_
            | refine o_sliceh tabOk rfl rfl rfl rfl (by omega) (by omega) (by decide) ?_
            | refine o_slp tabOk rfl rfl rfl rfl rfl (by omega) (by omega) (by omega) (by omega) (by decide) ?_
            | refine o_slpl tabOk rfl rfl rfl rfl (by omega) (by omega) (by decide) ?_
            | refine o_slp0 tabOk rfl rfl rfl rfl (by decide) ?_)
        | (refine z_isbi ?_; first
            | refine o_len tabOk rfl rfl (by decide) ?_
            | refine o_min rfl rfl (by decide) ?_
            | refine o_max rfl rfl (by decide) ?_
            | refine o_append rfl tabOk zeroOk rfl rfl rfl rfl rfl rfl (by first | assumption | exact Rds.cons _ (by assumption) | exact Rds.cons _ (Rds.cons _ (by assumption)) | exact own_rds 0 rfl | exact own_rds 1 rfl | exact own_rds 2 rfl) (by first | rfl | simp) (by first | rfl | simp) (by omega) (by omega) (by decide) fun A' c' => ?_
            | (refine z_front rfl 1 rfl ?_; refine o_append rfl tabOk zeroOk rfl rfl rfl rfl rfl rfl (by first | assumption | exact Rds.cons _ (by assumption) | exact Rds.cons _ (Rds.cons _ (by assumption)) | exact own_rds 0 rfl | exact own_rds 1 rfl | exact own_rds 2 rfl) (by first | rfl | simp) (by first | rfl | simp) (by omega) (by omega) (by decide) fun A' c' => ?_)
            | (refine z_front rfl 2 rfl ?_; refine o_append rfl tabOk zeroOk rfl rfl rfl rfl rfl rfl (by first | assumption | exact Rds.cons _ (by assumption) | exact Rds.cons _ (Rds.cons _ (by assumption)) | exact own_rds 0 rfl | exact own_rds 1 rfl | exact own_rds 2 rfl) (by first | rfl | simp) (by first | rfl | simp) (by omega) (by omega) (by decide) fun A' c' => ?_)
            | (refine z_front rfl 3 rfl ?_; refine o_append rfl tabOk zeroOk rfl rfl rfl rfl rfl rfl (by first | assumption | exact Rds.cons _ (by assumption) | exact Rds.cons _ (Rds.cons _ (by assumption)) | exact own_rds 0 rfl | exact own_rds 1 rfl | exact own_rds 2 rfl) (by first | rfl | simp) (by first | rfl | simp) (by omega) (by omega) (by decide) fun A' c' => ?_)
            | (refine z_front rfl 4 rfl ?_; refine o_append rfl tabOk zeroOk rfl rfl rfl rfl rfl rfl (by first | assumption | exact Rds.cons _ (by assumption) | exact Rds.cons _ (Rds.cons _ (by assumption)) | exact own_rds 0 rfl | exact own_rds 1 rfl | exact own_rds 2 rfl) (by first | rfl | simp) (by first | rfl | simp) (by omega) (by omega) (by decide) fun A' c' => ?_)
            | (refine z_front rfl 5 rfl ?_; refine o_append rfl tabOk zeroOk rfl rfl rfl rfl rfl rfl (by first | assumption | exact Rds.cons _ (by assumption) | exact Rds.cons _ (Rds.cons _ (by assumption)) | exact own_rds 0 rfl | exact own_rds 1 rfl | exact own_rds 2 rfl) (by first | rfl | simp) (by first | rfl | simp) (by omega) (by omega) (by decide) fun A' c' => ?_))
        | refine o_move rfl (by decide) ?_
        | refine o_assign rfl (by decide) ?_
        | refine o_nil rfl (by decide) ?_
        | refine o_extract rfl rfl (by decide) ?_
        | refine o_not rfl (by decide) ?_
        | refine o_field0 tabOk rfl rfl rfl rfl rfl (by decide) ?_
        | refine o_field tabOk rfl rfl rfl rfl rfl (by decide) ?_
        | refine o_conv tabOk rfl rfl rfl (by decide) ?_
        | refine o_fv tabOk rfl rfl rfl rfl rfl (by first | exact bm_at _ (by omega) | exact rm_at _ (by omega) | rfl) (by decide) ?_
        | refine o_ixv tabOk rfl rfl rfl rfl rfl (by omega) (by omega) (by first | exact bm_at _ (by omega) | exact rm_at _ (by omega) | rfl) (by decide) ?_
        | refine o_make1 rfl tabOk zeroOk rfl rfl rfl rfl rfl (by decide) fun g => ?_))
  all_goals
    refine Hold.go ?_
    by_cases hlt : i < L
    · obtain ⟨k, hk, hk0, hk1, hk2, hk3⟩ := fills_step hr hf ht1 (f := f) (t := t) (r := r) (by omega)
      have hrt := hr.takeB k true
      first | (exfalso; omega) | skip
      repeat' (first
        | (refine s_is ?_; first
            | (refine s_isagain ?_; first
                | (exact c_again (takeB r k true, i + 1) ⟨by dsimp only; omega, hrt, by dsimp only; omega⟩ (by dsimp only; omega) ⟨rfl, rfl, rfl, rfl, rfl, trivial⟩ (fun w h => h)))
            | (refine s_isw ?_; first
                | refine c_seq ?_
                | refine c_block ?_
                | refine c_region ?_
                | refine c_mixed mixed (by kernel_rfl) ?_
                | refine c_skip ?_
                | refine c_ret ?_
                | refine c_exit ?_
                | (refine s_iscond ?_; first
                    | (refine c_true rfl (by first | with_reducible rfl | ((with_reducible refine decide_eq_true ?_); first | with_reducible rfl | with_reducible assumption | omega) | (simp only [Bool.not_eq_true', decide_eq_false_iff_not]; omega) | (with_reducible assumption) | (rw [decide_eq_false] <;> (first | omega | with_reducible rfl)) | (rw [decide_eq_true] <;> (first | omega | with_reducible rfl)) | (simp; done) | (simp; omega)) ?_)
                    | (refine c_false rfl (by first | with_reducible rfl | ((with_reducible refine decide_eq_false ?_); first | with_reducible assumption | omega) | (simp only [Bool.not_eq_false', decide_eq_true_eq]; omega) | (with_reducible assumption) | (rw [decide_eq_false] <;> (first | omega | with_reducible rfl)) | (rw [decide_eq_true] <;> (first | omega | with_reducible rfl)) | (simp; done) | (simp; omega)) ?_)
                    | refine c_cond rfl (fun hc => ?_) (fun hc => ?_)
                    | refine c_condb rfl (fun hc => ?_) (fun hc => ?_)))
            | refine x_then ?_
            | refine x_then_ret ?_
            | refine x_then_exit ?_
            | refine x_block _ ?_
            | refine x_block_ret _ ?_
            | refine x_block_exit _ ?_
            | refine x_block_past (by decide) ?_
            | refine z_tailm ?_)
        | (refine z_isguard ?_; first
            | (refine z_want rfl rfl (by first | with_reducible rfl | ((with_reducible refine decide_eq_true ?_); first | with_reducible rfl | with_reducible assumption | omega) | ((with_reducible refine decide_eq_false ?_); first | with_reducible assumption | omega) | (simp only [Bool.not_eq_true', Bool.not_eq_false', decide_eq_false_iff_not, decide_eq_true_eq]; omega) | (with_reducible assumption) | (rw [decide_eq_false] <;> (first | omega | with_reducible rfl)) | (rw [decide_eq_true] <;> (first | omega | with_reducible rfl)) | (simp; done) | (simp; omega)) ?_)
            | (refine z_skip (by decide) rfl rfl (by first | with_reducible rfl | ((with_reducible refine decide_eq_true ?_); first | with_reducible rfl | with_reducible assumption | omega) | ((with_reducible refine decide_eq_false ?_); first | with_reducible assumption | omega) | (simp only [Bool.not_eq_true', Bool.not_eq_false', decide_eq_false_iff_not, decide_eq_true_eq]; omega) | (with_reducible assumption) | (rw [decide_eq_false] <;> (first | omega | with_reducible rfl)) | (rw [decide_eq_true] <;> (first | omega | with_reducible rfl)) | (simp; done) | (simp; omega)) ?_)
            | refine z_skipu (by decide) rfl rfl ?_
            | refine z_guard1 (by decide) rfl rfl (fun hc => ?_) (fun hc => ?_)
            | refine z_guard0 (by decide) rfl rfl (fun hc => ?_) (fun hc => ?_)
            | refine z_guardb (by decide) rfl rfl (fun hc => ?_) (fun hc => ?_))
        | (refine z_isnil ?_; first
            | refine z_list ?_
            | refine z_mixed ?_
            | refine z_mono0 ?_
            | refine z_mono1 (by decide) fun g => ?_
            | refine z_mono2 (by decide) (by decide) fun g g' => ?_
            | refine z_mixedx ?_
            | refine z_quiet ?_)
        | (refine z_isop ?_; first
            | refine o_boxa rfl rfl (by decide) fun g => ?_
            | refine o_alloca (e := 26) (vs := bm (fun _ => 0)) rfl (by kernel_rfl) (by decide) fun g => ?_
            | refine o_alloca (e := 24) (vs := bm (fun _ => 0)) rfl (by kernel_rfl) (by decide) fun g => ?_
            | refine o_alloca (e := 23) (vs := bm (fun _ => 0)) rfl (by kernel_rfl) (by decide) fun g => ?_
            | refine o_alloca (e := 49) (vs := rm (fun _ => false)) rfl (by kernel_rfl) (by decide) fun g => ?_
            | refine m_alloca (e := 26) (vs := bm (fun _ => 0)) (by kernel_rfl) ?_
            | (refine z_isbin ?_; first
                | refine o_add rfl rfl (by omega) (by omega) (by decide) ?_
                | refine o_sub rfl rfl (by omega) (by omega) (by decide) ?_
                | refine o_mul rfl rfl (by omega) (by omega) (by decide) ?_
                | refine o_eq rfl rfl (by decide) ?_
                | refine o_ne rfl rfl (by decide) ?_
                | refine o_lt rfl rfl (by decide) ?_
                | refine o_le rfl rfl (by decide) ?_
                | refine o_gt rfl rfl (by decide) ?_
                | refine o_ge rfl rfl (by decide) ?_
                | refine o_quo rfl rfl (by omega) (by omega) (by omega) (by decide) ?_
                | refine o_rem rfl rfl (by omega) (by omega) (by decide) ?_
                | refine o_quo8 rfl rfl (by omega) (by omega) (by omega) (by decide) ?_
                | refine o_remk rfl rfl (by omega) (by omega) (by decide) ?_
                | refine o_and rfl rfl (by decide) ?_
                | refine o_or rfl rfl (by decide) ?_
                | refine o_andNot rfl rfl (by decide) ?_
                | refine o_shl rfl rfl (by omega) (by decide) ?_
                | refine o_shr rfl rfl (by omega) (by decide) ?_
                | refine o_beq tabOk rfl rfl rfl (by decide) ?_
                | refine o_bne tabOk rfl rfl rfl (by decide) ?_
                | refine o_peq tabOk rfl rfl (by decide) ?_
                | refine o_pne tabOk rfl rfl (by decide) ?_
                | refine o_addw rfl rfl (by decide) ?_
                | refine o_subw rfl rfl (by decide) ?_
                | refine o_mulw rfl rfl (by decide) ?_
                | refine o_remt rfl rfl (by omega) (by decide) ?_
                | refine o_quot rfl rfl (by omega) (by decide) ?_)
            | (refine z_isload ?_; first
                | refine o_load tabOk rfl rfl rfl 0 rfl (by first | exact bm_at _ (by omega) | exact rm_at _ (by omega) | rfl) (by decide) ?_
                | refine o_load tabOk rfl rfl rfl 1 rfl (by first | exact bm_at _ (by omega) | exact rm_at _ (by omega) | rfl) (by decide) ?_
                | refine o_load tabOk rfl rfl rfl 2 rfl (by first | exact bm_at _ (by omega) | exact rm_at _ (by omega) | rfl) (by decide) ?_
                | refine o_load tabOk rfl rfl rfl 3 rfl (by first | exact bm_at _ (by omega) | exact rm_at _ (by omega) | rfl) (by decide) ?_
                | refine o_load tabOk rfl rfl rfl 4 rfl (by first | exact bm_at _ (by omega) | exact rm_at _ (by omega) | rfl) (by decide) ?_
                | refine o_load tabOk rfl rfl rfl 5 rfl (by first | exact bm_at _ (by omega) | exact rm_at _ (by omega) | rfl) (by decide) ?_
                | refine o_load tabOk rfl rfl rfl 6 rfl (by first | exact bm_at _ (by omega) | exact rm_at _ (by omega) | rfl) (by decide) ?_
                | refine o_loadw tabOk rfl rfl rfl 0 rfl (by first | exact bm_len _ | exact rm_len _ | (simp only [bm_len, rm_len]) | rfl) (by decide) ?_
                | refine o_loadw tabOk rfl rfl rfl 1 rfl (by first | exact bm_len _ | exact rm_len _ | (simp only [bm_len, rm_len]) | rfl) (by decide) ?_
                | refine o_loadw tabOk rfl rfl rfl 2 rfl (by first | exact bm_len _ | exact rm_len _ | (simp only [bm_len, rm_len]) | rfl) (by decide) ?_
                | refine o_loadw tabOk rfl rfl rfl 3 rfl (by first | exact bm_len _ | exact rm_len _ | (simp only [bm_len, rm_len]) | rfl) (by decide) ?_
                | refine o_loadw tabOk rfl rfl rfl 4 rfl (by first | exact bm_len _ | exact rm_len _ | (simp only [bm_len, rm_len]) | rfl) (by decide) ?_
                | refine o_loadw tabOk rfl rfl rfl 5 rfl (by first | exact bm_len _ | exact rm_len _ | (simp only [bm_len, rm_len]) | rfl) (by decide) ?_
                | refine o_loadw tabOk rfl rfl rfl 6 rfl (by first | exact bm_len _ | exact rm_len _ | (simp only [bm_len, rm_len]) | rfl) (by decide) ?_
                | refine o_loads tabOk (by first | assumption | exact Rds.cons _ (by assumption) | exact Rds.cons _ (Rds.cons _ (by assumption)) | exact own_rds 0 rfl | exact own_rds 1 rfl | exact own_rds 2 rfl) rfl rfl rfl (by first | exact bm_at _ (by omega) | exact rm_at _ (by omega) | rfl) (by decide) ?_)
            | (refine z_isstore ?_; first
                | refine o_store rfl tabOk rfl rfl rfl rfl rfl (by first | exact bm_at _ (by omega) | exact rm_at _ (by omega) | rfl) (by first | exact bm_set _ _ _ | exact rm_set _ _ _ | rfl) ?_
                | refine o_store_at rfl 1 tabOk rfl rfl rfl rfl rfl rfl (by first | exact bm_at _ (by omega) | exact rm_at _ (by omega) | rfl) (by first | exact bm_set _ _ _ | exact rm_set _ _ _ | rfl) ?_
                | refine o_store_at rfl 2 tabOk rfl rfl rfl rfl rfl rfl (by first | exact bm_at _ (by omega) | exact rm_at _ (by omega) | rfl) (by first | exact bm_set _ _ _ | exact rm_set _ _ _ | rfl) ?_
                | refine o_store_at rfl 3 tabOk rfl rfl rfl rfl rfl rfl (by first | exact bm_at _ (by omega) | exact rm_at _ (by omega) | rfl) (by first | exact bm_set _ _ _ | exact rm_set _ _ _ | rfl) ?_
                | refine o_store_at rfl 4 tabOk rfl rfl rfl rfl rfl rfl (by first | exact bm_at _ (by omega) | exact rm_at _ (by omega) | rfl) (by first | exact bm_set _ _ _ | exact rm_set _ _ _ | rfl) ?_
                | refine o_store_at rfl 5 tabOk rfl rfl rfl rfl rfl rfl (by first | exact bm_at _ (by omega) | exact rm_at _ (by omega) | rfl) (by first | exact bm_set _ _ _ | exact rm_set _ _ _ | rfl) ?_
                | refine o_store_at rfl 6 tabOk rfl rfl rfl rfl rfl rfl (by first | exact bm_at _ (by omega) | exact rm_at _ (by omega) | rfl) (by first | exact bm_set _ _ _ | exact rm_set _ _ _ | rfl) ?_
                | refine o_storeb rfl 0 tabOk rfl rfl rfl rfl (by first | exact bm_len _ | exact rm_len _ | (simp only [bm_len, rm_len]) | rfl) (by first | exact bm_one _ | exact rm_one _ | rfl) (by first | exact bm_len _ | exact rm_len _ | (simp only [bm_len, rm_len]) | rfl) ?_
                | refine o_storeb rfl 1 tabOk rfl rfl rfl rfl (by first | exact bm_len _ | exact rm_len _ | (simp only [bm_len, rm_len]) | rfl) (by first | exact bm_one _ | exact rm_one _ | rfl) (by first | exact bm_len _ | exact rm_len _ | (simp only [bm_len, rm_len]) | rfl) ?_
                | refine o_storeb rfl 2 tabOk rfl rfl rfl rfl (by first | exact bm_len _ | exact rm_len _ | (simp only [bm_len, rm_len]) | rfl) (by first | exact bm_one _ | exact rm_one _ | rfl) (by first | exact bm_len _ | exact rm_len _ | (simp only [bm_len, rm_len]) | rfl) ?_
                | refine o_storeb rfl 3 tabOk rfl rfl rfl rfl (by first | exact bm_len _ | exact rm_len _ | (simp only [bm_len, rm_len]) | rfl) (by first | exact bm_one _ | exact rm_one _ | rfl) (by first | exact bm_len _ | exact rm_len _ | (simp only [bm_len, rm_len]) | rfl) ?_
                | refine o_storeb rfl 4 tabOk rfl rfl rfl rfl (by first | exact bm_len _ | exact rm_len _ | (simp only [bm_len, rm_len]) | rfl) (by first | exact bm_one _ | exact rm_one _ | rfl) (by first | exact bm_len _ | exact rm_len _ | (simp only [bm_len, rm_len]) | rfl) ?_
                | refine o_storeb rfl 5 tabOk rfl rfl rfl rfl (by first | exact bm_len _ | exact rm_len _ | (simp only [bm_len, rm_len]) | rfl) (by first | exact bm_one _ | exact rm_one _ | rfl) (by first | exact bm_len _ | exact rm_len _ | (simp only [bm_len, rm_len]) | rfl) ?_
                | refine o_storeb rfl 6 tabOk rfl rfl rfl rfl (by first | exact bm_len _ | exact rm_len _ | (simp only [bm_len, rm_len]) | rfl) (by first | exact bm_one _ | exact rm_one _ | rfl) (by first | exact bm_len _ | exact rm_len _ | (simp only [bm_len, rm_len]) | rfl) ?_)
            | (refine z_iscall ?_; first
                | refine o_fn rfl Try.func15 rfl rfl rfl (first_is hr hk) (by decide) ?_
                | refine o_fn rfl Try.func44 rfl rfl rfl (in_fn _) (by decide) ?_
                | refine o_fn rfl Try.func16 rfl rfl rfl (has_fn _ (by assumption) _) (by decide) ?_
                | refine o_fn rfl Try.func17 rfl rfl rfl (take_fn _ (by assumption) _) (by decide) ?_
                | refine o_fn rfl Try.func25 rfl rfl rfl (free_fn _ (by assumption) _) (by decide) ?_
                | refine o_fn rfl Try.func12 rfl rfl rfl (of_fn _) (by decide) ?_
                | refine o_fn rfl Try.func24 rfl rfl rfl (block_fn _) (by decide) ?_
                | refine o_fn rfl Try.func14 rfl rfl rfl (count_fn _ (by assumption) _ _) (by decide) ?_
                | refine o_fn rfl Try.func18 rfl rfl rfl (awake24) (by decide) ?_)
            | (refine z_ispick ?_; first
                | (refine o_pick1 rfl (by first | with_reducible rfl | ((with_reducible refine decide_eq_true ?_); first | with_reducible rfl | with_reducible assumption | omega) | (simp only [Bool.not_eq_true', decide_eq_false_iff_not]; omega) | (with_reducible assumption) | (rw [decide_eq_false] <;> (first | omega | with_reducible rfl)) | (rw [decide_eq_true] <;> (first | omega | with_reducible rfl)) | (simp; done) | (simp; omega)) rfl (by decide) ?_)
                | (refine o_pick0 rfl (by first | with_reducible rfl | ((with_reducible refine decide_eq_false ?_); first | with_reducible assumption | omega) | (simp only [Bool.not_eq_false', decide_eq_true_eq]; omega) | (with_reducible assumption) | (rw [decide_eq_false] <;> (first | omega | with_reducible rfl)) | (rw [decide_eq_true] <;> (first | omega | with_reducible rfl)) | (simp; done) | (simp; omega)) rfl (by decide) ?_))
            | (refine z_isix ?_; first
                | refine o_index0 tabOk rfl rfl rfl rfl (by omega) (by omega) (by decide) ?_
                | refine o_index1 tabOk rfl rfl rfl rfl (by omega) (by omega) (by decide) ?_
                | refine o_indexsk tabOk rfl rfl rfl rfl (by omega) (by omega) (by decide) ?_
                | refine o_indexs1 tabOk (by first | assumption) rfl rfl rfl rfl (by omega) (by omega) (by decide) ?_)
            | (refine z_isslice ?_; first
                | refine o_slice tabOk rfl rfl rfl rfl rfl (by omega) (by omega) (by omega) (by decide) ?_
                | refine o_slicel tabOk rfl rfl rfl rfl (by omega) (by omega) (by omega) (by decide) ?_
                | refine o_sliceh tabOk rfl rfl rfl rfl (by omega) (by omega) (by decide) ?_
                | refine o_slp tabOk rfl rfl rfl rfl rfl (by omega) (by omega) (by omega) (by omega) (by decide) ?_
                | refine o_slpl tabOk rfl rfl rfl rfl (by omega) (by omega) (by decide) ?_
                | refine o_slp0 tabOk rfl rfl rfl rfl (by decide) ?_)
            | (refine z_isbi ?_; first
                | refine o_len tabOk rfl rfl (by decide) ?_
                | refine o_min rfl rfl (by decide) ?_
                | refine o_max rfl rfl (by decide) ?_
                | refine o_append rfl tabOk zeroOk rfl rfl rfl rfl rfl rfl (by first | assumption | exact Rds.cons _ (by assumption) | exact Rds.cons _ (Rds.cons _ (by assumption)) | exact own_rds 0 rfl | exact own_rds 1 rfl | exact own_rds 2 rfl) (by first | rfl | simp) (by first | rfl | simp) (by omega) (by omega) (by decide) fun A' c' => ?_
                | (refine z_front rfl 1 rfl ?_; refine o_append rfl tabOk zeroOk rfl rfl rfl rfl rfl rfl (by first | assumption | exact Rds.cons _ (by assumption) | exact Rds.cons _ (Rds.cons _ (by assumption)) | exact own_rds 0 rfl | exact own_rds 1 rfl | exact own_rds 2 rfl) (by first | rfl | simp) (by first | rfl | simp) (by omega) (by omega) (by decide) fun A' c' => ?_)
                | (refine z_front rfl 2 rfl ?_; refine o_append rfl tabOk zeroOk rfl rfl rfl rfl rfl rfl (by first | assumption | exact Rds.cons _ (by assumption) | exact Rds.cons _ (Rds.cons _ (by assumption)) | exact own_rds 0 rfl | exact own_rds 1 rfl | exact own_rds 2 rfl) (by first | rfl | simp) (by first | rfl | simp) (by omega) (by omega) (by decide) fun A' c' => ?_)
                | (refine z_front rfl 3 rfl ?_; refine o_append rfl tabOk zeroOk rfl rfl rfl rfl rfl rfl (by first | assumption | exact Rds.cons _ (by assumption) | exact Rds.cons _ (Rds.cons _ (by assumption)) | exact own_rds 0 rfl | exact own_rds 1 rfl | exact own_rds 2 rfl) (by first | rfl | simp) (by first | rfl | simp) (by omega) (by omega) (by decide) fun A' c' => ?_)
                | (refine z_front rfl 4 rfl ?_; refine o_append rfl tabOk zeroOk rfl rfl rfl rfl rfl rfl (by first | assumption | exact Rds.cons _ (by assumption) | exact Rds.cons _ (Rds.cons _ (by assumption)) | exact own_rds 0 rfl | exact own_rds 1 rfl | exact own_rds 2 rfl) (by first | rfl | simp) (by first | rfl | simp) (by omega) (by omega) (by decide) fun A' c' => ?_)
                | (refine z_front rfl 5 rfl ?_; refine o_append rfl tabOk zeroOk rfl rfl rfl rfl rfl rfl (by first | assumption | exact Rds.cons _ (by assumption) | exact Rds.cons _ (Rds.cons _ (by assumption)) | exact own_rds 0 rfl | exact own_rds 1 rfl | exact own_rds 2 rfl) (by first | rfl | simp) (by first | rfl | simp) (by omega) (by omega) (by decide) fun A' c' => ?_))
            | refine o_move rfl (by decide) ?_
            | refine o_assign rfl (by decide) ?_
            | refine o_nil rfl (by decide) ?_
            | refine o_extract rfl rfl (by decide) ?_
            | refine o_not rfl (by decide) ?_
            | refine o_field0 tabOk rfl rfl rfl rfl rfl (by decide) ?_
            | refine o_field tabOk rfl rfl rfl rfl rfl (by decide) ?_
            | refine o_conv tabOk rfl rfl rfl (by decide) ?_
            | refine o_fv tabOk rfl rfl rfl rfl rfl (by first | exact bm_at _ (by omega) | exact rm_at _ (by omega) | rfl) (by decide) ?_
            | refine o_ixv tabOk rfl rfl rfl rfl rfl (by omega) (by omega) (by first | exact bm_at _ (by omega) | exact rm_at _ (by omega) | rfl) (by decide) ?_
            | refine o_make1 rfl tabOk zeroOk rfl rfl rfl rfl rfl (by decide) fun g => ?_))
    · have hk := fills_end hf ht1 (f := f) (t := t) (r := r) (by omega)
      repeat' (first
        | (refine s_is ?_; first
            | (refine s_isret ?_; first
                | exact f_r1 rfl (res_t rfl) () trivial rfl (fun w h => h.mask [false, true]))
            | (refine s_isw ?_; first
                | refine c_seq ?_
                | refine c_block ?_
                | refine c_region ?_
                | refine c_mixed mixed (by kernel_rfl) ?_
                | refine c_skip ?_
                | refine c_ret ?_
                | refine c_exit ?_
                | (refine s_iscond ?_; first
                    | (refine c_true rfl (by first | with_reducible rfl | ((with_reducible refine decide_eq_true ?_); first | with_reducible rfl | with_reducible assumption | omega) | (simp only [Bool.not_eq_true', decide_eq_false_iff_not]; omega) | (with_reducible assumption) | (rw [decide_eq_false] <;> (first | omega | with_reducible rfl)) | (rw [decide_eq_true] <;> (first | omega | with_reducible rfl)) | (simp; done) | (simp; omega)) ?_)
                    | (refine c_false rfl (by first | with_reducible rfl | ((with_reducible refine decide_eq_false ?_); first | with_reducible assumption | omega) | (simp only [Bool.not_eq_false', decide_eq_true_eq]; omega) | (with_reducible assumption) | (rw [decide_eq_false] <;> (first | omega | with_reducible rfl)) | (rw [decide_eq_true] <;> (first | omega | with_reducible rfl)) | (simp; done) | (simp; omega)) ?_)
                    | refine c_cond rfl (fun hc => ?_) (fun hc => ?_)
                    | refine c_condb rfl (fun hc => ?_) (fun hc => ?_)))
            | refine x_then ?_
            | refine x_then_ret ?_
            | refine x_then_exit ?_
            | refine x_block _ ?_
            | refine x_block_ret _ ?_
            | refine x_block_exit _ ?_
            | refine x_block_past (by decide) ?_
            | refine z_tailm ?_)
        | (refine z_isguard ?_; first
            | (refine z_want rfl rfl (by first | with_reducible rfl | ((with_reducible refine decide_eq_true ?_); first | with_reducible rfl | with_reducible assumption | omega) | ((with_reducible refine decide_eq_false ?_); first | with_reducible assumption | omega) | (simp only [Bool.not_eq_true', Bool.not_eq_false', decide_eq_false_iff_not, decide_eq_true_eq]; omega) | (with_reducible assumption) | (rw [decide_eq_false] <;> (first | omega | with_reducible rfl)) | (rw [decide_eq_true] <;> (first | omega | with_reducible rfl)) | (simp; done) | (simp; omega)) ?_)
            | (refine z_skip (by decide) rfl rfl (by first | with_reducible rfl | ((with_reducible refine decide_eq_true ?_); first | with_reducible rfl | with_reducible assumption | omega) | ((with_reducible refine decide_eq_false ?_); first | with_reducible assumption | omega) | (simp only [Bool.not_eq_true', Bool.not_eq_false', decide_eq_false_iff_not, decide_eq_true_eq]; omega) | (with_reducible assumption) | (rw [decide_eq_false] <;> (first | omega | with_reducible rfl)) | (rw [decide_eq_true] <;> (first | omega | with_reducible rfl)) | (simp; done) | (simp; omega)) ?_)
            | refine z_skipu (by decide) rfl rfl ?_
            | refine z_guard1 (by decide) rfl rfl (fun hc => ?_) (fun hc => ?_)
            | refine z_guard0 (by decide) rfl rfl (fun hc => ?_) (fun hc => ?_)
            | refine z_guardb (by decide) rfl rfl (fun hc => ?_) (fun hc => ?_))
        | (refine z_isnil ?_; first
            | refine z_list ?_
            | refine z_mixed ?_
            | refine z_mono0 ?_
            | refine z_mono1 (by decide) fun g => ?_
            | refine z_mono2 (by decide) (by decide) fun g g' => ?_
            | refine z_mixedx ?_
            | refine z_quiet ?_)
        | (refine z_isop ?_; first
            | refine o_boxa rfl rfl (by decide) fun g => ?_
            | refine o_alloca (e := 26) (vs := bm (fun _ => 0)) rfl (by kernel_rfl) (by decide) fun g => ?_
            | refine o_alloca (e := 24) (vs := bm (fun _ => 0)) rfl (by kernel_rfl) (by decide) fun g => ?_
            | refine o_alloca (e := 23) (vs := bm (fun _ => 0)) rfl (by kernel_rfl) (by decide) fun g => ?_
            | refine o_alloca (e := 49) (vs := rm (fun _ => false)) rfl (by kernel_rfl) (by decide) fun g => ?_
            | refine m_alloca (e := 26) (vs := bm (fun _ => 0)) (by kernel_rfl) ?_
            | (refine z_isbin ?_; first
                | refine o_add rfl rfl (by omega) (by omega) (by decide) ?_
                | refine o_sub rfl rfl (by omega) (by omega) (by decide) ?_
                | refine o_mul rfl rfl (by omega) (by omega) (by decide) ?_
                | refine o_eq rfl rfl (by decide) ?_
                | refine o_ne rfl rfl (by decide) ?_
                | refine o_lt rfl rfl (by decide) ?_
                | refine o_le rfl rfl (by decide) ?_
                | refine o_gt rfl rfl (by decide) ?_
                | refine o_ge rfl rfl (by decide) ?_
                | refine o_quo rfl rfl (by omega) (by omega) (by omega) (by decide) ?_
                | refine o_rem rfl rfl (by omega) (by omega) (by decide) ?_
                | refine o_quo8 rfl rfl (by omega) (by omega) (by omega) (by decide) ?_
                | refine o_remk rfl rfl (by omega) (by omega) (by decide) ?_
                | refine o_and rfl rfl (by decide) ?_
                | refine o_or rfl rfl (by decide) ?_
                | refine o_andNot rfl rfl (by decide) ?_
                | refine o_shl rfl rfl (by omega) (by decide) ?_
                | refine o_shr rfl rfl (by omega) (by decide) ?_
                | refine o_beq tabOk rfl rfl rfl (by decide) ?_
                | refine o_bne tabOk rfl rfl rfl (by decide) ?_
                | refine o_peq tabOk rfl rfl (by decide) ?_
                | refine o_pne tabOk rfl rfl (by decide) ?_
                | refine o_addw rfl rfl (by decide) ?_
                | refine o_subw rfl rfl (by decide) ?_
                | refine o_mulw rfl rfl (by decide) ?_
                | refine o_remt rfl rfl (by omega) (by decide) ?_
                | refine o_quot rfl rfl (by omega) (by decide) ?_)
            | (refine z_isload ?_; first
                | refine o_load tabOk rfl rfl rfl 0 rfl (by first | exact bm_at _ (by omega) | exact rm_at _ (by omega) | rfl) (by decide) ?_
                | refine o_load tabOk rfl rfl rfl 1 rfl (by first | exact bm_at _ (by omega) | exact rm_at _ (by omega) | rfl) (by decide) ?_
                | refine o_load tabOk rfl rfl rfl 2 rfl (by first | exact bm_at _ (by omega) | exact rm_at _ (by omega) | rfl) (by decide) ?_
                | refine o_load tabOk rfl rfl rfl 3 rfl (by first | exact bm_at _ (by omega) | exact rm_at _ (by omega) | rfl) (by decide) ?_
                | refine o_load tabOk rfl rfl rfl 4 rfl (by first | exact bm_at _ (by omega) | exact rm_at _ (by omega) | rfl) (by decide) ?_
                | refine o_load tabOk rfl rfl rfl 5 rfl (by first | exact bm_at _ (by omega) | exact rm_at _ (by omega) | rfl) (by decide) ?_
                | refine o_load tabOk rfl rfl rfl 6 rfl (by first | exact bm_at _ (by omega) | exact rm_at _ (by omega) | rfl) (by decide) ?_
                | refine o_loadw tabOk rfl rfl rfl 0 rfl (by first | exact bm_len _ | exact rm_len _ | (simp only [bm_len, rm_len]) | rfl) (by decide) ?_
                | refine o_loadw tabOk rfl rfl rfl 1 rfl (by first | exact bm_len _ | exact rm_len _ | (simp only [bm_len, rm_len]) | rfl) (by decide) ?_
                | refine o_loadw tabOk rfl rfl rfl 2 rfl (by first | exact bm_len _ | exact rm_len _ | (simp only [bm_len, rm_len]) | rfl) (by decide) ?_
                | refine o_loadw tabOk rfl rfl rfl 3 rfl (by first | exact bm_len _ | exact rm_len _ | (simp only [bm_len, rm_len]) | rfl) (by decide) ?_
                | refine o_loadw tabOk rfl rfl rfl 4 rfl (by first | exact bm_len _ | exact rm_len _ | (simp only [bm_len, rm_len]) | rfl) (by decide) ?_
                | refine o_loadw tabOk rfl rfl rfl 5 rfl (by first | exact bm_len _ | exact rm_len _ | (simp only [bm_len, rm_len]) | rfl) (by decide) ?_
                | refine o_loadw tabOk rfl rfl rfl 6 rfl (by first | exact bm_len _ | exact rm_len _ | (simp only [bm_len, rm_len]) | rfl) (by decide) ?_
                | refine o_loads tabOk (by first | assumption | exact Rds.cons _ (by assumption) | exact Rds.cons _ (Rds.cons _ (by assumption)) | exact own_rds 0 rfl | exact own_rds 1 rfl | exact own_rds 2 rfl) rfl rfl rfl (by first | exact bm_at _ (by omega) | exact rm_at _ (by omega) | rfl) (by decide) ?_)
            | (refine z_isstore ?_; first
                | refine o_store rfl tabOk rfl rfl rfl rfl rfl (by first | exact bm_at _ (by omega) | exact rm_at _ (by omega) | rfl) (by first | exact bm_set _ _ _ | exact rm_set _ _ _ | rfl) ?_
                | refine o_store_at rfl 1 tabOk rfl rfl rfl rfl rfl rfl (by first | exact bm_at _ (by omega) | exact rm_at _ (by omega) | rfl) (by first | exact bm_set _ _ _ | exact rm_set _ _ _ | rfl) ?_
                | refine o_store_at rfl 2 tabOk rfl rfl rfl rfl rfl rfl (by first | exact bm_at _ (by omega) | exact rm_at _ (by omega) | rfl) (by first | exact bm_set _ _ _ | exact rm_set _ _ _ | rfl) ?_
                | refine o_store_at rfl 3 tabOk rfl rfl rfl rfl rfl rfl (by first | exact bm_at _ (by omega) | exact rm_at _ (by omega) | rfl) (by first | exact bm_set _ _ _ | exact rm_set _ _ _ | rfl) ?_
                | refine o_store_at rfl 4 tabOk rfl rfl rfl rfl rfl rfl (by first | exact bm_at _ (by omega) | exact rm_at _ (by omega) | rfl) (by first | exact bm_set _ _ _ | exact rm_set _ _ _ | rfl) ?_
                | refine o_store_at rfl 5 tabOk rfl rfl rfl rfl rfl rfl (by first | exact bm_at _ (by omega) | exact rm_at _ (by omega) | rfl) (by first | exact bm_set _ _ _ | exact rm_set _ _ _ | rfl) ?_
                | refine o_store_at rfl 6 tabOk rfl rfl rfl rfl rfl rfl (by first | exact bm_at _ (by omega) | exact rm_at _ (by omega) | rfl) (by first | exact bm_set _ _ _ | exact rm_set _ _ _ | rfl) ?_
                | refine o_storeb rfl 0 tabOk rfl rfl rfl rfl (by first | exact bm_len _ | exact rm_len _ | (simp only [bm_len, rm_len]) | rfl) (by first | exact bm_one _ | exact rm_one _ | rfl) (by first | exact bm_len _ | exact rm_len _ | (simp only [bm_len, rm_len]) | rfl) ?_
                | refine o_storeb rfl 1 tabOk rfl rfl rfl rfl (by first | exact bm_len _ | exact rm_len _ | (simp only [bm_len, rm_len]) | rfl) (by first | exact bm_one _ | exact rm_one _ | rfl) (by first | exact bm_len _ | exact rm_len _ | (simp only [bm_len, rm_len]) | rfl) ?_
                | refine o_storeb rfl 2 tabOk rfl rfl rfl rfl (by first | exact bm_len _ | exact rm_len _ | (simp only [bm_len, rm_len]) | rfl) (by first | exact bm_one _ | exact rm_one _ | rfl) (by first | exact bm_len _ | exact rm_len _ | (simp only [bm_len, rm_len]) | rfl) ?_
                | refine o_storeb rfl 3 tabOk rfl rfl rfl rfl (by first | exact bm_len _ | exact rm_len _ | (simp only [bm_len, rm_len]) | rfl) (by first | exact bm_one _ | exact rm_one _ | rfl) (by first | exact bm_len _ | exact rm_len _ | (simp only [bm_len, rm_len]) | rfl) ?_
                | refine o_storeb rfl 4 tabOk rfl rfl rfl rfl (by first | exact bm_len _ | exact rm_len _ | (simp only [bm_len, rm_len]) | rfl) (by first | exact bm_one _ | exact rm_one _ | rfl) (by first | exact bm_len _ | exact rm_len _ | (simp only [bm_len, rm_len]) | rfl) ?_
                | refine o_storeb rfl 5 tabOk rfl rfl rfl rfl (by first | exact bm_len _ | exact rm_len _ | (simp only [bm_len, rm_len]) | rfl) (by first | exact bm_one _ | exact rm_one _ | rfl) (by first | exact bm_len _ | exact rm_len _ | (simp only [bm_len, rm_len]) | rfl) ?_
                | refine o_storeb rfl 6 tabOk rfl rfl rfl rfl (by first | exact bm_len _ | exact rm_len _ | (simp only [bm_len, rm_len]) | rfl) (by first | exact bm_one _ | exact rm_one _ | rfl) (by first | exact bm_len _ | exact rm_len _ | (simp only [bm_len, rm_len]) | rfl) ?_)
            | (refine z_iscall ?_; first
                | refine o_fn rfl Try.func15 rfl rfl rfl (first_is hr hk) (by decide) ?_
                | refine o_fn rfl Try.func44 rfl rfl rfl (in_fn _) (by decide) ?_
                | refine o_fn rfl Try.func16 rfl rfl rfl (has_fn _ (by assumption) _) (by decide) ?_
                | refine o_fn rfl Try.func17 rfl rfl rfl (take_fn _ (by assumption) _) (by decide) ?_
                | refine o_fn rfl Try.func25 rfl rfl rfl (free_fn _ (by assumption) _) (by decide) ?_
                | refine o_fn rfl Try.func12 rfl rfl rfl (of_fn _) (by decide) ?_
                | refine o_fn rfl Try.func24 rfl rfl rfl (block_fn _) (by decide) ?_
                | refine o_fn rfl Try.func14 rfl rfl rfl (count_fn _ (by assumption) _ _) (by decide) ?_
                | refine o_fn rfl Try.func18 rfl rfl rfl (awake24) (by decide) ?_)
            | (refine z_ispick ?_; first
                | (refine o_pick1 rfl (by first | with_reducible rfl | ((with_reducible refine decide_eq_true ?_); first | with_reducible rfl | with_reducible assumption | omega) | (simp only [Bool.not_eq_true', decide_eq_false_iff_not]; omega) | (with_reducible assumption) | (rw [decide_eq_false] <;> (first | omega | with_reducible rfl)) | (rw [decide_eq_true] <;> (first | omega | with_reducible rfl)) | (simp; done) | (simp; omega)) rfl (by decide) ?_)
                | (refine o_pick0 rfl (by first | with_reducible rfl | ((with_reducible refine decide_eq_false ?_); first | with_reducible assumption | omega) | (simp only [Bool.not_eq_false', decide_eq_true_eq]; omega) | (with_reducible assumption) | (rw [decide_eq_false] <;> (first | omega | with_reducible rfl)) | (rw [decide_eq_true] <;> (first | omega | with_reducible rfl)) | (simp; done) | (simp; omega)) rfl (by decide) ?_))
            | (refine z_isix ?_; first
                | refine o_index0 tabOk rfl rfl rfl rfl (by omega) (by omega) (by decide) ?_
                | refine o_index1 tabOk rfl rfl rfl rfl (by omega) (by omega) (by decide) ?_
                | refine o_indexsk tabOk rfl rfl rfl rfl (by omega) (by omega) (by decide) ?_
                | refine o_indexs1 tabOk (by first | assumption) rfl rfl rfl rfl (by omega) (by omega) (by decide) ?_)
            | (refine z_isslice ?_; first
                | refine o_slice tabOk rfl rfl rfl rfl rfl (by omega) (by omega) (by omega) (by decide) ?_
                | refine o_slicel tabOk rfl rfl rfl rfl (by omega) (by omega) (by omega) (by decide) ?_
                | refine o_sliceh tabOk rfl rfl rfl rfl (by omega) (by omega) (by decide) ?_
                | refine o_slp tabOk rfl rfl rfl rfl rfl (by omega) (by omega) (by omega) (by omega) (by decide) ?_
                | refine o_slpl tabOk rfl rfl rfl rfl (by omega) (by omega) (by decide) ?_
                | refine o_slp0 tabOk rfl rfl rfl rfl (by decide) ?_)
            | (refine z_isbi ?_; first
                | refine o_len tabOk rfl rfl (by decide) ?_
                | refine o_min rfl rfl (by decide) ?_
                | refine o_max rfl rfl (by decide) ?_
                | refine o_append rfl tabOk zeroOk rfl rfl rfl rfl rfl rfl (by first | assumption | exact Rds.cons _ (by assumption) | exact Rds.cons _ (Rds.cons _ (by assumption)) | exact own_rds 0 rfl | exact own_rds 1 rfl | exact own_rds 2 rfl) (by first | rfl | simp) (by first | rfl | simp) (by omega) (by omega) (by decide) fun A' c' => ?_
                | (refine z_front rfl 1 rfl ?_; refine o_append rfl tabOk zeroOk rfl rfl rfl rfl rfl rfl (by first | assumption | exact Rds.cons _ (by assumption) | exact Rds.cons _ (Rds.cons _ (by assumption)) | exact own_rds 0 rfl | exact own_rds 1 rfl | exact own_rds 2 rfl) (by first | rfl | simp) (by first | rfl | simp) (by omega) (by omega) (by decide) fun A' c' => ?_)
                | (refine z_front rfl 2 rfl ?_; refine o_append rfl tabOk zeroOk rfl rfl rfl rfl rfl rfl (by first | assumption | exact Rds.cons _ (by assumption) | exact Rds.cons _ (Rds.cons _ (by assumption)) | exact own_rds 0 rfl | exact own_rds 1 rfl | exact own_rds 2 rfl) (by first | rfl | simp) (by first | rfl | simp) (by omega) (by omega) (by decide) fun A' c' => ?_)
                | (refine z_front rfl 3 rfl ?_; refine o_append rfl tabOk zeroOk rfl rfl rfl rfl rfl rfl (by first | assumption | exact Rds.cons _ (by assumption) | exact Rds.cons _ (Rds.cons _ (by assumption)) | exact own_rds 0 rfl | exact own_rds 1 rfl | exact own_rds 2 rfl) (by first | rfl | simp) (by first | rfl | simp) (by omega) (by omega) (by decide) fun A' c' => ?_)
                | (refine z_front rfl 4 rfl ?_; refine o_append rfl tabOk zeroOk rfl rfl rfl rfl rfl rfl (by first | assumption | exact Rds.cons _ (by assumption) | exact Rds.cons _ (Rds.cons _ (by assumption)) | exact own_rds 0 rfl | exact own_rds 1 rfl | exact own_rds 2 rfl) (by first | rfl | simp) (by first | rfl | simp) (by omega) (by omega) (by decide) fun A' c' => ?_)
                | (refine z_front rfl 5 rfl ?_; refine o_append rfl tabOk zeroOk rfl rfl rfl rfl rfl rfl (by first | assumption | exact Rds.cons _ (by assumption) | exact Rds.cons _ (Rds.cons _ (by assumption)) | exact own_rds 0 rfl | exact own_rds 1 rfl | exact own_rds 2 rfl) (by first | rfl | simp) (by first | rfl | simp) (by omega) (by omega) (by decide) fun A' c' => ?_))
            | refine o_move rfl (by decide) ?_
            | refine o_assign rfl (by decide) ?_
            | refine o_nil rfl (by decide) ?_
            | refine o_extract rfl rfl (by decide) ?_
            | refine o_not rfl (by decide) ?_
            | refine o_field0 tabOk rfl rfl rfl rfl rfl (by decide) ?_
            | refine o_field tabOk rfl rfl rfl rfl rfl (by decide) ?_
            | refine o_conv tabOk rfl rfl rfl (by decide) ?_
            | refine o_fv tabOk rfl rfl rfl rfl rfl (by first | exact bm_at _ (by omega) | exact rm_at _ (by omega) | rfl) (by decide) ?_
            | refine o_ixv tabOk rfl rfl rfl rfl rfl (by omega) (by omega) (by first | exact bm_at _ (by omega) | exact rm_at _ (by omega) | rfl) (by decide) ?_
            | refine o_make1 rfl tabOk zeroOk rfl rfl rfl rfl rfl (by decide) fun g => ?_))
end Go.Proofs.Ytjejnlfbonpfaaa
