/-
Whatever is taken and freed, the map is the document's: the law, walked.
-/
import Derived.Test.YtjejnlfbonpfaaaBitBack
namespace Go.Proofs.Ytjejnlfbonpfaaa
set_option linter.unusedVariables false
set_option linter.unusedSimpArgs false
open Eng
attribute [local irreducible] Eng.Hold Eng.Z Eng.S bm rm hasB tb takeB firstV countV rfirst rcount Eng.old Eng.cells Eng.own
theorem cmp24 : Cmp Try.prog 24 (List.replicate 64 (.int .u8)) := ⟨by kernel_rfl, .inl ⟨_, _, rfl⟩, by kernel_rfl⟩
theorem cmp49 : Cmp Try.prog 49 (List.replicate 512 .bool) := ⟨by kernel_rfl, .inl ⟨_, _, rfl⟩, by kernel_rfl⟩
theorem first_is {r : Nat → Int} (hr : By r) {f t : Int} {o : Option Nat} (h : firstV r f t = o) : Pf Try.prog 15 [.agg (bm r).toArray, .int .i64 f, .int .i64 t] (foundV o) := h ▸ first_fn r hr f t
theorem rfirst_is {r : Nat → Int} {f t : Int} {o : Option Nat} (h : firstV r f t = o) : Pf Try.prog 26 [.agg (rm (tb r)).toArray, .int .i64 f, .int .i64 t] (.int .i64 (rfound o)) := by
  have e : rfirst (tb r) f t = o := by rw [← h]; unfold rfirst firstV; rfl
  exact e ▸ rfirst_fn (tb r) f t
theorem rfirst_some {r : Nat → Int} {f t : Int} {k : Nat} (h : firstV r f t = some k) : Pf Try.prog 26 [.agg (rm (tb r)).toArray, .int .i64 f, .int .i64 t] (.int .i64 k) := rfirst_is h
theorem rfirst_none {r : Nat → Int} {f t : Int} (h : firstV r f t = none) : Pf Try.prog 26 [.agg (rm (tb r)).toArray, .int .i64 f, .int .i64 t] (.int .i64 (-1)) := rfirst_is h
theorem rcount_is (r : Nat → Int) (f t : Int) : Pf Try.prog 27 [.agg (rm (tb r)).toArray, .int .i64 f, .int .i64 t] (.int .i64 (countV r f t)) := by
  have e : rcount (tb r) f t = countV r f t := by unfold rcount countV; rfl
  exact e ▸ rcount_fn (tb r) f t
theorem x_upd {r : Nat → Int} (hr : By r) {v : Int} (h : 0 ≤ v ∧ v < 512) (b : Bool) : rm (upd (tb r) v.toNat b) = rm (tb (takeB r v b)) := by
  rw [tb_takeF hr v h]; rfl
theorem has_take {r : Nat → Int} (hr : By r) {v : Int} (h : 0 ≤ v ∧ v < 512) (b : Bool) : hasB (takeB r v b) v = b := by
  unfold hasB; rw [tb_takeF hr v h]; simp [h]
def i64s (l : List Int) : List Value := l.map (Value.int .i64)
theorem i64s_at (l : List Int) {i : Nat} (h : i < l.length) : (i64s l)[i]? = some (.int .i64 (l.getD i 0)) := by unfold i64s; simp [h]
set_option maxHeartbeats 2000000 in
theorem bitmapPlays (W : World) (A0 : Option Addr) (c0 : Nat) (xs : List Int) (A1 : Option Addr) (c1 : Nat) (ls : List Int) (f t : Int) (hrd : Rds [old W] A0 (u8l xs)) (hx : xs.length ≤ 9223372036854775807) (hb : ∀ z ∈ xs, 0 ≤ z ∧ z ≤ 255) (hrl : Rds [old W] A1 (i64s ls)) (hl : ls.length ≤ 9223372036854775807) :
    Does Try.prog 5 [.slice A0 xs.length c0, .slice A1 ls.length c1, .int .i64 f, .int .i64 t] [old W] (fun _ : Unit => True) (fun _ => .bool true) (fun _ => [old W]) := by
  intro w hw
  have hne : 0 < ls.length → A1 ≠ none := fun h => hrl.ne hw (by simpa [i64s] using h)
  have hby := byF_by hb
  refine f_enter Try.func5 rfl Try.ntmps5 rfl hw ?_
  repeat' (first
    | (refine s_is ?_; first
        | refine c_monot (id := 8) 7 mixed (by kernel_rfl) rfl ?_
        | (refine s_isw ?_; first
            | (refine s_isloop ?_; first
                | ((rename_i g1 g2; refine c_loop (X := (Nat → Int) × Nat) (fun y => By y.1 ∧ y.2 ≤ ls.length) (fun y => [(1, .slice A1 ls.length c1), (2, .int .i64 f), (3, .int .i64 t), (10, .pointer (some ⟨g2, 0, none⟩)), (11, .pointer (some ⟨g, 0, none⟩)), (12, .int .i64 y.2)]) (fun y => [cells g 49 (rm (tb y.1)), cells g2 26 (bm y.1), cells g1 23 (bm (byF xs)), old W]) (fun y => ls.length - y.2) (byF xs, 0) ⟨hby, Nat.zero_le _⟩ ⟨rfl, rfl, rfl, rfl, rfl, rfl, trivial⟩ (fun w h => h) (fun y hy => ?_); obtain ⟨r, i⟩ := y; dsimp only at hy ⊢; obtain ⟨hr, hi⟩ := hy; refine hold ?_)))
            | refine c_seq ?_
            | refine c_block ?_
            | ((refine c_region_keep [0, 1, 2, 3, 8, 9, 10, 11, 12, 13, 14, 15, 16, 17, 18] (by repeat (first | exact keep_nil | exact keep_end | apply keep_no rfl | apply keep_yes rfl rfl)) ?_; first | refine c_region ?_ | refine c_mixed mixed (by kernel_rfl) ?_))
            | refine c_mixed mixed (by kernel_rfl) ?_
            | refine c_skip ?_
            | refine c_ret ?_
            | refine c_exit ?_
            | (refine s_iscond ?_; first
                | (refine c_true rfl (by first | with_reducible rfl | ((with_reducible refine decide_eq_true ?_); first | with_reducible rfl | with_reducible assumption | omega) | (simp only [Bool.not_eq_true', decide_eq_false_iff_not]; omega) | (with_reducible assumption) | (rw [decide_eq_false] <;> (first | omega | with_reducible rfl)) | (rw [decide_eq_true] <;> (first | omega | with_reducible rfl)) | (simp; done) | (simp; omega)) ?_)
                | (refine c_false rfl (by first | with_reducible rfl | ((with_reducible refine decide_eq_false ?_); first | with_reducible assumption | omega) | (simp only [Bool.not_eq_false', decide_eq_true_eq]; omega) | (with_reducible assumption) | (rw [decide_eq_false] <;> (first | omega | with_reducible rfl)) | (rw [decide_eq_true] <;> (first | omega | with_reducible rfl)) | (simp; done) | (simp; omega)) ?_)
                | refine c_cond rfl (fun hc => ?_) (fun hc => ?_)
                | refine c_condb rfl (fun hc => ?_) (fun hc => ?_)))
        | refine x_then ?_
        | refine x_then_ret ?_
        | refine x_then_exit ?_
        | refine x_block _ ?_
        | refine x_block_ret _ ?_
        | refine x_block_exit _ ?_
        | refine x_block_past (by decide) ?_
        | refine z_tailm ?_)
    | (refine z_isguard ?_; first
        | (refine z_want rfl rfl (by first | with_reducible rfl | ((with_reducible refine decide_eq_true ?_); first | with_reducible rfl | with_reducible assumption | omega) | ((with_reducible refine decide_eq_false ?_); first | with_reducible assumption | omega) | (simp only [Bool.not_eq_true', Bool.not_eq_false', decide_eq_false_iff_not, decide_eq_true_eq]; omega) | (with_reducible assumption) | (rw [decide_eq_false] <;> (first | omega | with_reducible rfl)) | (rw [decide_eq_true] <;> (first | omega | with_reducible rfl)) | (simp; done) | (simp; omega)) ?_)
        | (refine z_skip (by decide) rfl rfl (by first | with_reducible rfl | ((with_reducible refine decide_eq_true ?_); first | with_reducible rfl | with_reducible assumption | omega) | ((with_reducible refine decide_eq_false ?_); first | with_reducible assumption | omega) | (simp only [Bool.not_eq_true', Bool.not_eq_false', decide_eq_false_iff_not, decide_eq_true_eq]; omega) | (with_reducible assumption) | (rw [decide_eq_false] <;> (first | omega | with_reducible rfl)) | (rw [decide_eq_true] <;> (first | omega | with_reducible rfl)) | (simp; done) | (simp; omega)) ?_)
        | refine z_skipu (by decide) rfl rfl ?_
        | refine z_guard1 (by decide) rfl rfl (fun hc => ?_) (fun hc => ?_)
        | refine z_guard0 (by decide) rfl rfl (fun hc => ?_) (fun hc => ?_)
        | refine z_guardb (by decide) rfl rfl (fun hc => ?_) (fun hc => ?_))
    | (refine z_isnil ?_; first
        | refine z_list ?_
        | refine z_mixed ?_
        | refine z_mono0 ?_
        | refine z_mono1 (by decide) fun g => ?_
        | refine z_mono2 (by decide) (by decide) fun g g' => ?_
        | refine z_mixedx ?_
        | refine z_quiet ?_)
    | (refine z_isop ?_; first
        | refine o_boxa rfl rfl (by decide) fun g => ?_
        | refine o_alloca (e := 26) (vs := bm (fun _ => 0)) rfl (by kernel_rfl) (by decide) fun g => ?_
        | refine o_alloca (e := 24) (vs := bm (fun _ => 0)) rfl (by kernel_rfl) (by decide) fun g => ?_
        | refine o_alloca (e := 23) (vs := bm (fun _ => 0)) rfl (by kernel_rfl) (by decide) fun g => ?_
        | refine o_alloca (e := 49) (vs := rm (fun _ => false)) rfl (by kernel_rfl) (by decide) fun g => ?_
        | refine m_alloca (e := 26) (vs := bm (fun _ => 0)) (by kernel_rfl) ?_
        | (refine z_isbin ?_; first
            | refine o_eqa cmp49 rfl rfl (rm_typed _) (rm_typed _) (by decide) ?_
            | refine o_nea cmp24 rfl rfl (bm_typed _) (bm_typed _) (by decide) ?_
            | (refine z_isb .add ?_; first
                | refine o_add rfl rfl (by omega) (by omega) (by decide) ?_
                | refine o_addw rfl rfl (by decide) ?_)
            | (refine z_isb .sub ?_; first
                | refine o_sub rfl rfl (by omega) (by omega) (by decide) ?_
                | refine o_subw rfl rfl (by decide) ?_)
            | (refine z_isb .mul ?_; first
                | refine o_mul rfl rfl (by omega) (by omega) (by decide) ?_
                | refine o_mulw rfl rfl (by decide) ?_)
            | (refine z_isb .eql ?_; first
                | refine o_eq rfl rfl (by decide) ?_
                | refine o_beq tabOk rfl rfl rfl (by decide) ?_
                | refine o_peq tabOk rfl rfl (by decide) ?_)
            | (refine z_isb .neq ?_; first
                | refine o_ne rfl rfl (by decide) ?_
                | refine o_bne tabOk rfl rfl rfl (by decide) ?_
                | refine o_pne tabOk rfl rfl (by decide) ?_)
            | (refine z_isb .lss ?_; first
                | refine o_lt rfl rfl (by decide) ?_)
            | (refine z_isb .leq ?_; first
                | refine o_le rfl rfl (by decide) ?_)
            | (refine z_isb .gtr ?_; first
                | refine o_gt rfl rfl (by decide) ?_)
            | (refine z_isb .geq ?_; first
                | refine o_ge rfl rfl (by decide) ?_)
            | (refine z_isb .quo ?_; first
                | refine o_quo rfl rfl (by omega) (by omega) (by omega) (by decide) ?_
                | refine o_quo8 rfl rfl (by omega) (by omega) (by omega) (by decide) ?_
                | refine o_quot rfl rfl (by omega) (by decide) ?_)
            | (refine z_isb .rem ?_; first
                | refine o_rem rfl rfl (by omega) (by omega) (by decide) ?_
                | refine o_remk rfl rfl (by omega) (by omega) (by decide) ?_
                | refine o_remt rfl rfl (by omega) (by decide) ?_)
            | (refine z_isb .and ?_; first
                | refine o_and rfl rfl (by decide) ?_)
            | (refine z_isb .or ?_; first
                | refine o_or rfl rfl (by decide) ?_)
            | (refine z_isb .andNot ?_; first
                | refine o_andNot rfl rfl (by decide) ?_)
            | (refine z_isb .shl ?_; first
                | refine o_shl rfl rfl (by omega) (by decide) ?_)
            | (refine z_isb .shr ?_; first
                | refine o_shr rfl rfl (by omega) (by decide) ?_))
        | (refine z_isload ?_; first
            | (refine z_ld1 tabOk rfl rfl ?_; first
                | ((refine z_ldi 0 rfl rfl ?_; refine o_load tabOk rfl rfl rfl 0 rfl (by first | exact hv | exact bm_at _ (by omega) | exact rm_at _ (by omega) | rfl) (by decide) ?_))
                | ((refine z_ldi 1 rfl rfl ?_; refine o_load tabOk rfl rfl rfl 1 rfl (by first | exact hv | exact bm_at _ (by omega) | exact rm_at _ (by omega) | rfl) (by decide) ?_))
                | ((refine z_ldi 2 rfl rfl ?_; refine o_load tabOk rfl rfl rfl 2 rfl (by first | exact hv | exact bm_at _ (by omega) | exact rm_at _ (by omega) | rfl) (by decide) ?_))
                | ((refine z_ldi 3 rfl rfl ?_; refine o_load tabOk rfl rfl rfl 3 rfl (by first | exact hv | exact bm_at _ (by omega) | exact rm_at _ (by omega) | rfl) (by decide) ?_))
                | ((refine z_ldi 4 rfl rfl ?_; refine o_load tabOk rfl rfl rfl 4 rfl (by first | exact hv | exact bm_at _ (by omega) | exact rm_at _ (by omega) | rfl) (by decide) ?_))
                | ((refine z_ldi 5 rfl rfl ?_; refine o_load tabOk rfl rfl rfl 5 rfl (by first | exact hv | exact bm_at _ (by omega) | exact rm_at _ (by omega) | rfl) (by decide) ?_))
                | ((refine z_ldi 6 rfl rfl ?_; refine o_load tabOk rfl rfl rfl 6 rfl (by first | exact hv | exact bm_at _ (by omega) | exact rm_at _ (by omega) | rfl) (by decide) ?_))
                | refine o_loads tabOk (by first | exact own_rds 0 rfl | exact Rds.cons _ (Rds.cons _ (Rds.cons _ hrl)) | exact Rds.cons _ (Rds.cons _ (Rds.cons _ (Rds.cons _ hrl))) | exact Rds.cons _ (Rds.cons _ (Rds.cons _ (Rds.cons _ (Rds.cons _ hrl)))) | assumption) rfl rfl rfl (by first | exact hv | exact bm_at _ (by omega) | exact rm_at _ (by omega) | rfl) (by decide) ?_)
            | (refine z_ldw tabOk rfl rfl ?_; first
                | ((refine z_ldi 0 rfl rfl ?_; refine o_loadw tabOk rfl rfl rfl 0 rfl (by first | exact bm_len _ | exact rm_len _ | (simp only [bm_len, rm_len]) | rfl) (by decide) ?_))
                | ((refine z_ldi 1 rfl rfl ?_; refine o_loadw tabOk rfl rfl rfl 1 rfl (by first | exact bm_len _ | exact rm_len _ | (simp only [bm_len, rm_len]) | rfl) (by decide) ?_))
                | ((refine z_ldi 2 rfl rfl ?_; refine o_loadw tabOk rfl rfl rfl 2 rfl (by first | exact bm_len _ | exact rm_len _ | (simp only [bm_len, rm_len]) | rfl) (by decide) ?_))
                | ((refine z_ldi 3 rfl rfl ?_; refine o_loadw tabOk rfl rfl rfl 3 rfl (by first | exact bm_len _ | exact rm_len _ | (simp only [bm_len, rm_len]) | rfl) (by decide) ?_))
                | ((refine z_ldi 4 rfl rfl ?_; refine o_loadw tabOk rfl rfl rfl 4 rfl (by first | exact bm_len _ | exact rm_len _ | (simp only [bm_len, rm_len]) | rfl) (by decide) ?_))
                | ((refine z_ldi 5 rfl rfl ?_; refine o_loadw tabOk rfl rfl rfl 5 rfl (by first | exact bm_len _ | exact rm_len _ | (simp only [bm_len, rm_len]) | rfl) (by decide) ?_))
                | ((refine z_ldi 6 rfl rfl ?_; refine o_loadw tabOk rfl rfl rfl 6 rfl (by first | exact bm_len _ | exact rm_len _ | (simp only [bm_len, rm_len]) | rfl) (by decide) ?_))))
        | (refine z_isstore ?_; first
            | (refine z_stw rfl ?_; first
                | ((refine z_sti 0 rfl rfl ?_; refine o_storeb0 rfl tabOk rfl rfl rfl (by first | exact bm_len _ | exact rm_len _ | (simp only [bm_len, rm_len]) | rfl) (by first | exact bm_one _ | exact rm_one _ | rfl) (by first | exact bm_len _ | exact rm_len _ | (simp only [bm_len, rm_len]) | rfl) ?_))
                | ((refine z_sti 1 rfl rfl ?_; refine o_storeb1 rfl tabOk rfl rfl rfl (by first | exact bm_len _ | exact rm_len _ | (simp only [bm_len, rm_len]) | rfl) (by first | exact bm_one _ | exact rm_one _ | rfl) (by first | exact bm_len _ | exact rm_len _ | (simp only [bm_len, rm_len]) | rfl) ?_))
                | ((refine z_sti 2 rfl rfl ?_; refine o_storeb2 rfl tabOk rfl rfl rfl (by first | exact bm_len _ | exact rm_len _ | (simp only [bm_len, rm_len]) | rfl) (by first | exact bm_one _ | exact rm_one _ | rfl) (by first | exact bm_len _ | exact rm_len _ | (simp only [bm_len, rm_len]) | rfl) ?_))
                | ((refine z_sti 3 rfl rfl ?_; refine o_storeb3 rfl tabOk rfl rfl rfl (by first | exact bm_len _ | exact rm_len _ | (simp only [bm_len, rm_len]) | rfl) (by first | exact bm_one _ | exact rm_one _ | rfl) (by first | exact bm_len _ | exact rm_len _ | (simp only [bm_len, rm_len]) | rfl) ?_))
                | ((refine z_sti 4 rfl rfl ?_; refine o_storeb4 rfl tabOk rfl rfl rfl (by first | exact bm_len _ | exact rm_len _ | (simp only [bm_len, rm_len]) | rfl) (by first | exact bm_one _ | exact rm_one _ | rfl) (by first | exact bm_len _ | exact rm_len _ | (simp only [bm_len, rm_len]) | rfl) ?_))
                | ((refine z_sti 5 rfl rfl ?_; refine o_storeb5 rfl tabOk rfl rfl rfl (by first | exact bm_len _ | exact rm_len _ | (simp only [bm_len, rm_len]) | rfl) (by first | exact bm_one _ | exact rm_one _ | rfl) (by first | exact bm_len _ | exact rm_len _ | (simp only [bm_len, rm_len]) | rfl) ?_))
                | ((refine z_sti 6 rfl rfl ?_; refine o_storeb6 rfl tabOk rfl rfl rfl (by first | exact bm_len _ | exact rm_len _ | (simp only [bm_len, rm_len]) | rfl) (by first | exact bm_one _ | exact rm_one _ | rfl) (by first | exact bm_len _ | exact rm_len _ | (simp only [bm_len, rm_len]) | rfl) ?_)))
            | (refine z_st1 rfl rfl ?_; first
                | refine o_store rfl tabOk rfl rfl rfl rfl rfl (by first | exact hv | exact bm_at _ (by omega) | exact rm_at _ (by omega) | rfl) (by first | exact bm_set _ _ _ | exact rm_set _ _ _ | rfl) ?_
                | ((refine z_sti 1 rfl rfl ?_; refine o_store1 rfl tabOk rfl rfl rfl rfl rfl (by first | exact hv | exact bm_at _ (by omega) | exact rm_at _ (by omega) | rfl) (by first | exact bm_set _ _ _ | exact rm_set _ _ _ | rfl) ?_))
                | ((refine z_sti 2 rfl rfl ?_; refine o_store2 rfl tabOk rfl rfl rfl rfl rfl (by first | exact hv | exact bm_at _ (by omega) | exact rm_at _ (by omega) | rfl) (by first | exact bm_set _ _ _ | exact rm_set _ _ _ | rfl) ?_))
                | ((refine z_sti 3 rfl rfl ?_; refine o_store3 rfl tabOk rfl rfl rfl rfl rfl (by first | exact hv | exact bm_at _ (by omega) | exact rm_at _ (by omega) | rfl) (by first | exact bm_set _ _ _ | exact rm_set _ _ _ | rfl) ?_))
                | ((refine z_sti 4 rfl rfl ?_; refine o_store4 rfl tabOk rfl rfl rfl rfl rfl (by first | exact hv | exact bm_at _ (by omega) | exact rm_at _ (by omega) | rfl) (by first | exact bm_set _ _ _ | exact rm_set _ _ _ | rfl) ?_))
                | ((refine z_sti 5 rfl rfl ?_; refine o_store5 rfl tabOk rfl rfl rfl rfl rfl (by first | exact hv | exact bm_at _ (by omega) | exact rm_at _ (by omega) | rfl) (by first | exact bm_set _ _ _ | exact rm_set _ _ _ | rfl) ?_))
                | ((refine z_sti 6 rfl rfl ?_; refine o_store6 rfl tabOk rfl rfl rfl rfl rfl (by first | exact hv | exact bm_at _ (by omega) | exact rm_at _ (by omega) | rfl) (by first | exact bm_set _ _ _ | exact rm_set _ _ _ | rfl) ?_))))
        | (refine z_isfield ?_; first
            | refine o_fv tabOk rfl rfl rfl rfl rfl (by first | exact hv | exact bm_at _ (by omega) | exact rm_at _ (by omega) | rfl) (by decide) ?_
            | refine o_fvw tabOk rfl rfl rfl rfl rfl (by first | exact bm_len _ | exact rm_len _ | (simp only [bm_len, rm_len]) | rfl) (by decide) ?_)
        | (refine z_isindex ?_; first
            | refine o_ixv tabOk rfl rfl rfl rfl rfl (by omega) (by omega) (by first | exact hv | exact bm_at _ (by omega) | exact rm_at _ (by omega) | rfl) (by decide) ?_)
        | (refine z_ismakes ?_; first
            | refine o_make1 rfl tabOk zeroOk rfl rfl rfl rfl rfl (by decide) fun g => ?_)
        | (refine z_iscall ?_; first
            | refine o_call Try.func13 rfl rfl rfl (ofb_c xs _ _ [old W] hrd hx) (List.Perm.refl _) (by decide) fun _ _ => ?_
            | ((refine z_iscallf 44 ?_; refine o_fn rfl Try.func44 rfl rfl rfl (in_fn _) (by decide) ?_))
            | ((refine z_iscallf 16 ?_; refine o_fn rfl Try.func16 rfl rfl rfl (has_fn _ (by assumption) _) (by decide) ?_))
            | ((refine z_iscallf 17 ?_; refine o_fn rfl Try.func17 rfl rfl rfl (take_fn _ (by assumption) _) (by decide) ?_))
            | ((refine z_iscallf 25 ?_; refine o_fn rfl Try.func25 rfl rfl rfl (free_fn _ (by assumption) _) (by decide) ?_))
            | ((refine z_iscallf 12 ?_; refine o_fn rfl Try.func12 rfl rfl rfl (of_fn _) (by decide) ?_))
            | ((refine z_iscallf 24 ?_; refine o_fn rfl Try.func24 rfl rfl rfl (block_fn _) (by decide) ?_))
            | ((refine z_iscallf 14 ?_; refine o_fn rfl Try.func14 rfl rfl rfl (count_fn _ (by assumption) _ _) (by decide) ?_))
            | ((refine z_iscallf 18 ?_; refine o_fn rfl Try.func18 rfl rfl rfl (awake24) (by decide) ?_))
            | ((refine z_iscallf 23 ?_; refine o_fn rfl Try.func23 rfl rfl rfl (rof_fn _ (by assumption)) (by decide) ?_))
            | ((refine z_iscallf 27 ?_; refine o_fn rfl Try.func27 rfl rfl rfl (rcount_is _ _ _) (by decide) ?_)))
        | (refine z_ispick ?_; first
            | (refine o_pick1 rfl (by first | with_reducible rfl | ((with_reducible refine decide_eq_true ?_); first | with_reducible rfl | with_reducible assumption | omega) | (simp only [Bool.not_eq_true', decide_eq_false_iff_not]; omega) | (with_reducible assumption) | (rw [decide_eq_false] <;> (first | omega | with_reducible rfl)) | (rw [decide_eq_true] <;> (first | omega | with_reducible rfl)) | (simp; done) | (simp; omega)) rfl (by decide) ?_)
            | (refine o_pick0 rfl (by first | with_reducible rfl | ((with_reducible refine decide_eq_false ?_); first | with_reducible assumption | omega) | (simp only [Bool.not_eq_false', decide_eq_true_eq]; omega) | (with_reducible assumption) | (rw [decide_eq_false] <;> (first | omega | with_reducible rfl)) | (rw [decide_eq_true] <;> (first | omega | with_reducible rfl)) | (simp; done) | (simp; omega)) rfl (by decide) ?_))
        | (refine z_isix ?_; first
            | refine o_index0 tabOk rfl rfl rfl rfl (by omega) (by omega) (by decide) ?_
            | refine o_index1 tabOk rfl rfl rfl rfl (by omega) (by omega) (by decide) ?_
            | refine o_indexsk tabOk rfl rfl rfl rfl (by omega) (by omega) (by decide) ?_
            | refine o_indexs1 tabOk (by first | assumption | exact hne (by omega) | assumption) rfl rfl rfl rfl (by omega) (by omega) (by decide) ?_)
        | (refine z_isslice ?_; first
            | refine o_slice tabOk rfl rfl rfl rfl rfl (by omega) (by omega) (by omega) (by decide) ?_
            | refine o_slicel tabOk rfl rfl rfl rfl (by omega) (by omega) (by omega) (by decide) ?_
            | refine o_sliceh tabOk rfl rfl rfl rfl (by omega) (by omega) (by decide) ?_
            | refine o_slp tabOk rfl rfl rfl rfl rfl (by omega) (by omega) (by omega) (by omega) (by decide) ?_
            | refine o_slpl tabOk rfl rfl rfl rfl (by omega) (by omega) (by decide) ?_
            | refine o_slp0 tabOk rfl rfl rfl rfl (by decide) ?_)
        | (refine z_isbi ?_; first
            | refine o_len tabOk rfl rfl (by decide) ?_
            | refine o_min rfl rfl (by decide) ?_
            | refine o_max rfl rfl (by decide) ?_
            | refine o_append rfl tabOk zeroOk rfl rfl rfl rfl rfl rfl (by first | exact own_rds 0 rfl | exact Rds.cons _ (Rds.cons _ (Rds.cons _ hrl)) | exact Rds.cons _ (Rds.cons _ (Rds.cons _ (Rds.cons _ hrl))) | exact Rds.cons _ (Rds.cons _ (Rds.cons _ (Rds.cons _ (Rds.cons _ hrl)))) | assumption) (by first | rfl | simp) (by first | rfl | simp) (by omega) (by omega) (by decide) fun A' c' => ?_
            | (refine z_front rfl 1 rfl ?_; refine o_append rfl tabOk zeroOk rfl rfl rfl rfl rfl rfl (by first | exact own_rds 0 rfl | exact Rds.cons _ (Rds.cons _ (Rds.cons _ hrl)) | exact Rds.cons _ (Rds.cons _ (Rds.cons _ (Rds.cons _ hrl))) | exact Rds.cons _ (Rds.cons _ (Rds.cons _ (Rds.cons _ (Rds.cons _ hrl)))) | assumption) (by first | rfl | simp) (by first | rfl | simp) (by omega) (by omega) (by decide) fun A' c' => ?_)
            | (refine z_front rfl 2 rfl ?_; refine o_append rfl tabOk zeroOk rfl rfl rfl rfl rfl rfl (by first | exact own_rds 0 rfl | exact Rds.cons _ (Rds.cons _ (Rds.cons _ hrl)) | exact Rds.cons _ (Rds.cons _ (Rds.cons _ (Rds.cons _ hrl))) | exact Rds.cons _ (Rds.cons _ (Rds.cons _ (Rds.cons _ (Rds.cons _ hrl)))) | assumption) (by first | rfl | simp) (by first | rfl | simp) (by omega) (by omega) (by decide) fun A' c' => ?_)
            | (refine z_front rfl 3 rfl ?_; refine o_append rfl tabOk zeroOk rfl rfl rfl rfl rfl rfl (by first | exact own_rds 0 rfl | exact Rds.cons _ (Rds.cons _ (Rds.cons _ hrl)) | exact Rds.cons _ (Rds.cons _ (Rds.cons _ (Rds.cons _ hrl))) | exact Rds.cons _ (Rds.cons _ (Rds.cons _ (Rds.cons _ (Rds.cons _ hrl)))) | assumption) (by first | rfl | simp) (by first | rfl | simp) (by omega) (by omega) (by decide) fun A' c' => ?_)
            | (refine z_front rfl 4 rfl ?_; refine o_append rfl tabOk zeroOk rfl rfl rfl rfl rfl rfl (by first | exact own_rds 0 rfl | exact Rds.cons _ (Rds.cons _ (Rds.cons _ hrl)) | exact Rds.cons _ (Rds.cons _ (Rds.cons _ (Rds.cons _ hrl))) | exact Rds.cons _ (Rds.cons _ (Rds.cons _ (Rds.cons _ (Rds.cons _ hrl)))) | assumption) (by first | rfl | simp) (by first | rfl | simp) (by omega) (by omega) (by decide) fun A' c' => ?_)
            | (refine z_front rfl 5 rfl ?_; refine o_append rfl tabOk zeroOk rfl rfl rfl rfl rfl rfl (by first | exact own_rds 0 rfl | exact Rds.cons _ (Rds.cons _ (Rds.cons _ hrl)) | exact Rds.cons _ (Rds.cons _ (Rds.cons _ (Rds.cons _ hrl))) | exact Rds.cons _ (Rds.cons _ (Rds.cons _ (Rds.cons _ (Rds.cons _ hrl)))) | assumption) (by first | rfl | simp) (by first | rfl | simp) (by omega) (by omega) (by decide) fun A' c' => ?_))
        | refine o_move rfl (by decide) ?_
        | refine o_assign rfl (by decide) ?_
        | refine o_nil rfl (by decide) ?_
        | refine o_extract rfl rfl (by decide) ?_
        | refine o_not rfl (by decide) ?_
        | refine o_field0 tabOk rfl rfl rfl rfl rfl (by decide) ?_
        | refine o_field tabOk rfl rfl rfl rfl rfl (by decide) ?_
        | refine o_conv tabOk rfl rfl rfl (by decide) ?_))
  refine Hold.go ?_
  have es : eqB (bm r) (bm r) = true := bm_eq fun _ _ => rfl
  have er : eqB (rm (tb r)) (rm (tb r)) = true := (eqB_iff (rm_typed _) (rm_typed _)).2 rfl
  by_cases hlt : i < ls.length ∧ i < 40
  · obtain ⟨v, hv⟩ : ∃ v, (i64s ls)[i]? = some (.int .i64 v) := ⟨_, i64s_at _ hlt.1⟩
    have ht1 := hr.takeB v true
    have ht2 := hr.takeB v false
    by_cases hin : 0 ≤ v ∧ v < 512
    · have e1 := has_take hr hin true
      have e2 := has_take hr hin false
      by_cases hm : ((i : Nat) : Int) % 3 = 2
      · have e3 : (!(hasB (takeB r v false) v == decide (((i : Nat) : Int) % 3 ≠ 2))) = false := by rw [e2]; simp [hm]
        have ex : rm (upd (tb r) v.toNat (decide (((i : Nat) : Int) % 3 ≠ 2))) = rm (tb (takeB r v false)) := by rw [← x_upd hr hin]; simp [hm]
        have e4 : (!eqB (bm r) (bm r)) = false := by rw [es]; rfl
        repeat' (first
          | (refine s_is ?_; first
              | refine c_monot (id := 8) 7 mixed (by kernel_rfl) rfl ?_
              | (refine s_isagain ?_; first
                  | (exact c_again (takeB r v false, i + 1) ⟨ht2, by dsimp only; omega⟩ (by dsimp only; omega) ⟨rfl, rfl, rfl, rfl, rfl, rfl, trivial⟩ (fun w h => by rw [ex] at h; exact h.mask [false, false, true, true, true, true])))
              | (refine s_isw ?_; first
                  | refine c_seq ?_
                  | refine c_block ?_
                  | ((refine c_region_keep [0, 1, 2, 3, 8, 9, 10, 11, 12, 13, 14, 15, 16, 17, 18] (by repeat (first | exact keep_nil | exact keep_end | apply keep_no rfl | apply keep_yes rfl rfl)) ?_; first | refine c_region ?_ | refine c_mixed mixed (by kernel_rfl) ?_))
                  | refine c_mixed mixed (by kernel_rfl) ?_
                  | refine c_skip ?_
                  | refine c_ret ?_
                  | refine c_exit ?_
                  | (refine s_iscond ?_; first
                      | (refine c_true rfl (by first | with_reducible rfl | ((with_reducible refine decide_eq_true ?_); first | with_reducible rfl | with_reducible assumption | omega) | (simp only [Bool.not_eq_true', decide_eq_false_iff_not]; omega) | (with_reducible assumption) | (rw [decide_eq_false] <;> (first | omega | with_reducible rfl)) | (rw [decide_eq_true] <;> (first | omega | with_reducible rfl)) | (simp; done) | (simp; omega)) ?_)
                      | (refine c_false rfl (by first | with_reducible rfl | ((with_reducible refine decide_eq_false ?_); first | with_reducible assumption | omega) | (simp only [Bool.not_eq_false', decide_eq_true_eq]; omega) | (with_reducible assumption) | (rw [decide_eq_false] <;> (first | omega | with_reducible rfl)) | (rw [decide_eq_true] <;> (first | omega | with_reducible rfl)) | (simp; done) | (simp; omega)) ?_)
                      | refine c_cond rfl (fun hc => ?_) (fun hc => ?_)
                      | refine c_condb rfl (fun hc => ?_) (fun hc => ?_)))
              | refine x_then ?_
              | refine x_then_ret ?_
              | refine x_then_exit ?_
              | refine x_block _ ?_
              | refine x_block_ret _ ?_
              | refine x_block_exit _ ?_
              | refine x_block_past (by decide) ?_
              | refine z_tailm ?_)
          | (refine z_isguard ?_; first
              | (refine z_want rfl rfl (by first | with_reducible rfl | ((with_reducible refine decide_eq_true ?_); first | with_reducible rfl | with_reducible assumption | omega) | ((with_reducible refine decide_eq_false ?_); first | with_reducible assumption | omega) | (simp only [Bool.not_eq_true', Bool.not_eq_false', decide_eq_false_iff_not, decide_eq_true_eq]; omega) | (with_reducible assumption) | (rw [decide_eq_false] <;> (first | omega | with_reducible rfl)) | (rw [decide_eq_true] <;> (first | omega | with_reducible rfl)) | (simp; done) | (simp; omega)) ?_)
              | (refine z_skip (by decide) rfl rfl (by first | with_reducible rfl | ((with_reducible refine decide_eq_true ?_); first | with_reducible rfl | with_reducible assumption | omega) | ((with_reducible refine decide_eq_false ?_); first | with_reducible assumption | omega) | (simp only [Bool.not_eq_true', Bool.not_eq_false', decide_eq_false_iff_not, decide_eq_true_eq]; omega) | (with_reducible assumption) | (rw [decide_eq_false] <;> (first | omega | with_reducible rfl)) | (rw [decide_eq_true] <;> (first | omega | with_reducible rfl)) | (simp; done) | (simp; omega)) ?_)
              | refine z_skipu (by decide) rfl rfl ?_
              | refine z_guard1 (by decide) rfl rfl (fun hc => ?_) (fun hc => ?_)
              | refine z_guard0 (by decide) rfl rfl (fun hc => ?_) (fun hc => ?_)
              | refine z_guardb (by decide) rfl rfl (fun hc => ?_) (fun hc => ?_))
          | (refine z_isnil ?_; first
              | refine z_list ?_
              | refine z_mixed ?_
              | refine z_mono0 ?_
              | refine z_mono1 (by decide) fun g => ?_
              | refine z_mono2 (by decide) (by decide) fun g g' => ?_
              | refine z_mixedx ?_
              | refine z_quiet ?_)
          | (refine z_isop ?_; first
              | refine o_boxa rfl rfl (by decide) fun g => ?_
              | refine o_alloca (e := 26) (vs := bm (fun _ => 0)) rfl (by kernel_rfl) (by decide) fun g => ?_
              | refine o_alloca (e := 24) (vs := bm (fun _ => 0)) rfl (by kernel_rfl) (by decide) fun g => ?_
              | refine o_alloca (e := 23) (vs := bm (fun _ => 0)) rfl (by kernel_rfl) (by decide) fun g => ?_
              | refine o_alloca (e := 49) (vs := rm (fun _ => false)) rfl (by kernel_rfl) (by decide) fun g => ?_
              | refine m_alloca (e := 26) (vs := bm (fun _ => 0)) (by kernel_rfl) ?_
              | (refine z_isbin ?_; first
                  | refine o_eqa cmp49 rfl rfl (rm_typed _) (rm_typed _) (by decide) ?_
                  | refine o_nea cmp24 rfl rfl (bm_typed _) (bm_typed _) (by decide) ?_
                  | (refine z_isb .add ?_; first
                      | refine o_add rfl rfl (by omega) (by omega) (by decide) ?_
                      | refine o_addw rfl rfl (by decide) ?_)
                  | (refine z_isb .sub ?_; first
                      | refine o_sub rfl rfl (by omega) (by omega) (by decide) ?_
                      | refine o_subw rfl rfl (by decide) ?_)
                  | (refine z_isb .mul ?_; first
                      | refine o_mul rfl rfl (by omega) (by omega) (by decide) ?_
                      | refine o_mulw rfl rfl (by decide) ?_)
                  | (refine z_isb .eql ?_; first
                      | refine o_eq rfl rfl (by decide) ?_
                      | refine o_beq tabOk rfl rfl rfl (by decide) ?_
                      | refine o_peq tabOk rfl rfl (by decide) ?_)
                  | (refine z_isb .neq ?_; first
                      | refine o_ne rfl rfl (by decide) ?_
                      | refine o_bne tabOk rfl rfl rfl (by decide) ?_
                      | refine o_pne tabOk rfl rfl (by decide) ?_)
                  | (refine z_isb .lss ?_; first
                      | refine o_lt rfl rfl (by decide) ?_)
                  | (refine z_isb .leq ?_; first
                      | refine o_le rfl rfl (by decide) ?_)
                  | (refine z_isb .gtr ?_; first
                      | refine o_gt rfl rfl (by decide) ?_)
                  | (refine z_isb .geq ?_; first
                      | refine o_ge rfl rfl (by decide) ?_)
                  | (refine z_isb .quo ?_; first
                      | refine o_quo rfl rfl (by omega) (by omega) (by omega) (by decide) ?_
                      | refine o_quo8 rfl rfl (by omega) (by omega) (by omega) (by decide) ?_
                      | refine o_quot rfl rfl (by omega) (by decide) ?_)
                  | (refine z_isb .rem ?_; first
                      | refine o_rem rfl rfl (by omega) (by omega) (by decide) ?_
                      | refine o_remk rfl rfl (by omega) (by omega) (by decide) ?_
                      | refine o_remt rfl rfl (by omega) (by decide) ?_)
                  | (refine z_isb .and ?_; first
                      | refine o_and rfl rfl (by decide) ?_)
                  | (refine z_isb .or ?_; first
                      | refine o_or rfl rfl (by decide) ?_)
                  | (refine z_isb .andNot ?_; first
                      | refine o_andNot rfl rfl (by decide) ?_)
                  | (refine z_isb .shl ?_; first
                      | refine o_shl rfl rfl (by omega) (by decide) ?_)
                  | (refine z_isb .shr ?_; first
                      | refine o_shr rfl rfl (by omega) (by decide) ?_))
              | (refine z_isload ?_; first
                  | (refine z_ld1 tabOk rfl rfl ?_; first
                      | ((refine z_ldi 0 rfl rfl ?_; refine o_load tabOk rfl rfl rfl 0 rfl (by first | exact hv | exact bm_at _ (by omega) | exact rm_at _ (by omega) | rfl) (by decide) ?_))
                      | ((refine z_ldi 1 rfl rfl ?_; refine o_load tabOk rfl rfl rfl 1 rfl (by first | exact hv | exact bm_at _ (by omega) | exact rm_at _ (by omega) | rfl) (by decide) ?_))
                      | ((refine z_ldi 2 rfl rfl ?_; refine o_load tabOk rfl rfl rfl 2 rfl (by first | exact hv | exact bm_at _ (by omega) | exact rm_at _ (by omega) | rfl) (by decide) ?_))
                      | ((refine z_ldi 3 rfl rfl ?_; refine o_load tabOk rfl rfl rfl 3 rfl (by first | exact hv | exact bm_at _ (by omega) | exact rm_at _ (by omega) | rfl) (by decide) ?_))
                      | ((refine z_ldi 4 rfl rfl ?_; refine o_load tabOk rfl rfl rfl 4 rfl (by first | exact hv | exact bm_at _ (by omega) | exact rm_at _ (by omega) | rfl) (by decide) ?_))
                      | ((refine z_ldi 5 rfl rfl ?_; refine o_load tabOk rfl rfl rfl 5 rfl (by first | exact hv | exact bm_at _ (by omega) | exact rm_at _ (by omega) | rfl) (by decide) ?_))
                      | ((refine z_ldi 6 rfl rfl ?_; refine o_load tabOk rfl rfl rfl 6 rfl (by first | exact hv | exact bm_at _ (by omega) | exact rm_at _ (by omega) | rfl) (by decide) ?_))
                      | refine o_loads tabOk (by first | exact own_rds 0 rfl | exact Rds.cons _ (Rds.cons _ (Rds.cons _ hrl)) | exact Rds.cons _ (Rds.cons _ (Rds.cons _ (Rds.cons _ hrl))) | exact Rds.cons _ (Rds.cons _ (Rds.cons _ (Rds.cons _ (Rds.cons _ hrl)))) | assumption) rfl rfl rfl (by first | exact hv | exact bm_at _ (by omega) | exact rm_at _ (by omega) | rfl) (by decide) ?_)
                  | (refine z_ldw tabOk rfl rfl ?_; first
                      | ((refine z_ldi 0 rfl rfl ?_; refine o_loadw tabOk rfl rfl rfl 0 rfl (by first | exact bm_len _ | exact rm_len _ | (simp only [bm_len, rm_len]) | rfl) (by decide) ?_))
                      | ((refine z_ldi 1 rfl rfl ?_; refine o_loadw tabOk rfl rfl rfl 1 rfl (by first | exact bm_len _ | exact rm_len _ | (simp only [bm_len, rm_len]) | rfl) (by decide) ?_))
                      | ((refine z_ldi 2 rfl rfl ?_; refine o_loadw tabOk rfl rfl rfl 2 rfl (by first | exact bm_len _ | exact rm_len _ | (simp only [bm_len, rm_len]) | rfl) (by decide) ?_))
                      | ((refine z_ldi 3 rfl rfl ?_; refine o_loadw tabOk rfl rfl rfl 3 rfl (by first | exact bm_len _ | exact rm_len _ | (simp only [bm_len, rm_len]) | rfl) (by decide) ?_))
                      | ((refine z_ldi 4 rfl rfl ?_; refine o_loadw tabOk rfl rfl rfl 4 rfl (by first | exact bm_len _ | exact rm_len _ | (simp only [bm_len, rm_len]) | rfl) (by decide) ?_))
                      | ((refine z_ldi 5 rfl rfl ?_; refine o_loadw tabOk rfl rfl rfl 5 rfl (by first | exact bm_len _ | exact rm_len _ | (simp only [bm_len, rm_len]) | rfl) (by decide) ?_))
                      | ((refine z_ldi 6 rfl rfl ?_; refine o_loadw tabOk rfl rfl rfl 6 rfl (by first | exact bm_len _ | exact rm_len _ | (simp only [bm_len, rm_len]) | rfl) (by decide) ?_))))
              | (refine z_isstore ?_; first
                  | (refine z_stw rfl ?_; first
                      | ((refine z_sti 0 rfl rfl ?_; refine o_storeb0 rfl tabOk rfl rfl rfl (by first | exact bm_len _ | exact rm_len _ | (simp only [bm_len, rm_len]) | rfl) (by first | exact bm_one _ | exact rm_one _ | rfl) (by first | exact bm_len _ | exact rm_len _ | (simp only [bm_len, rm_len]) | rfl) ?_))
                      | ((refine z_sti 1 rfl rfl ?_; refine o_storeb1 rfl tabOk rfl rfl rfl (by first | exact bm_len _ | exact rm_len _ | (simp only [bm_len, rm_len]) | rfl) (by first | exact bm_one _ | exact rm_one _ | rfl) (by first | exact bm_len _ | exact rm_len _ | (simp only [bm_len, rm_len]) | rfl) ?_))
                      | ((refine z_sti 2 rfl rfl ?_; refine o_storeb2 rfl tabOk rfl rfl rfl (by first | exact bm_len _ | exact rm_len _ | (simp only [bm_len, rm_len]) | rfl) (by first | exact bm_one _ | exact rm_one _ | rfl) (by first | exact bm_len _ | exact rm_len _ | (simp only [bm_len, rm_len]) | rfl) ?_))
                      | ((refine z_sti 3 rfl rfl ?_; refine o_storeb3 rfl tabOk rfl rfl rfl (by first | exact bm_len _ | exact rm_len _ | (simp only [bm_len, rm_len]) | rfl) (by first | exact bm_one _ | exact rm_one _ | rfl) (by first | exact bm_len _ | exact rm_len _ | (simp only [bm_len, rm_len]) | rfl) ?_))
                      | ((refine z_sti 4 rfl rfl ?_; refine o_storeb4 rfl tabOk rfl rfl rfl (by first | exact bm_len _ | exact rm_len _ | (simp only [bm_len, rm_len]) | rfl) (by first | exact bm_one _ | exact rm_one _ | rfl) (by first | exact bm_len _ | exact rm_len _ | (simp only [bm_len, rm_len]) | rfl) ?_))
                      | ((refine z_sti 5 rfl rfl ?_; refine o_storeb5 rfl tabOk rfl rfl rfl (by first | exact bm_len _ | exact rm_len _ | (simp only [bm_len, rm_len]) | rfl) (by first | exact bm_one _ | exact rm_one _ | rfl) (by first | exact bm_len _ | exact rm_len _ | (simp only [bm_len, rm_len]) | rfl) ?_))
                      | ((refine z_sti 6 rfl rfl ?_; refine o_storeb6 rfl tabOk rfl rfl rfl (by first | exact bm_len _ | exact rm_len _ | (simp only [bm_len, rm_len]) | rfl) (by first | exact bm_one _ | exact rm_one _ | rfl) (by first | exact bm_len _ | exact rm_len _ | (simp only [bm_len, rm_len]) | rfl) ?_)))
                  | (refine z_st1 rfl rfl ?_; first
                      | refine o_store rfl tabOk rfl rfl rfl rfl rfl (by first | exact hv | exact bm_at _ (by omega) | exact rm_at _ (by omega) | rfl) (by first | exact bm_set _ _ _ | exact rm_set _ _ _ | rfl) ?_
                      | ((refine z_sti 1 rfl rfl ?_; refine o_store1 rfl tabOk rfl rfl rfl rfl rfl (by first | exact hv | exact bm_at _ (by omega) | exact rm_at _ (by omega) | rfl) (by first | exact bm_set _ _ _ | exact rm_set _ _ _ | rfl) ?_))
                      | ((refine z_sti 2 rfl rfl ?_; refine o_store2 rfl tabOk rfl rfl rfl rfl rfl (by first | exact hv | exact bm_at _ (by omega) | exact rm_at _ (by omega) | rfl) (by first | exact bm_set _ _ _ | exact rm_set _ _ _ | rfl) ?_))
                      | ((refine z_sti 3 rfl rfl ?_; refine o_store3 rfl tabOk rfl rfl rfl rfl rfl (by first | exact hv | exact bm_at _ (by omega) | exact rm_at _ (by omega) | rfl) (by first | exact bm_set _ _ _ | exact rm_set _ _ _ | rfl) ?_))
                      | ((refine z_sti 4 rfl rfl ?_; refine o_store4 rfl tabOk rfl rfl rfl rfl rfl (by first | exact hv | exact bm_at _ (by omega) | exact rm_at _ (by omega) | rfl) (by first | exact bm_set _ _ _ | exact rm_set _ _ _ | rfl) ?_))
                      | ((refine z_sti 5 rfl rfl ?_; refine o_store5 rfl tabOk rfl rfl rfl rfl rfl (by first | exact hv | exact bm_at _ (by omega) | exact rm_at _ (by omega) | rfl) (by first | exact bm_set _ _ _ | exact rm_set _ _ _ | rfl) ?_))
                      | ((refine z_sti 6 rfl rfl ?_; refine o_store6 rfl tabOk rfl rfl rfl rfl rfl (by first | exact hv | exact bm_at _ (by omega) | exact rm_at _ (by omega) | rfl) (by first | exact bm_set _ _ _ | exact rm_set _ _ _ | rfl) ?_))))
              | (refine z_isfield ?_; first
                  | refine o_fv tabOk rfl rfl rfl rfl rfl (by first | exact hv | exact bm_at _ (by omega) | exact rm_at _ (by omega) | rfl) (by decide) ?_
                  | refine o_fvw tabOk rfl rfl rfl rfl rfl (by first | exact bm_len _ | exact rm_len _ | (simp only [bm_len, rm_len]) | rfl) (by decide) ?_)
              | (refine z_isindex ?_; first
                  | refine o_ixv tabOk rfl rfl rfl rfl rfl (by omega) (by omega) (by first | exact hv | exact bm_at _ (by omega) | exact rm_at _ (by omega) | rfl) (by decide) ?_)
              | (refine z_ismakes ?_; first
                  | refine o_make1 rfl tabOk zeroOk rfl rfl rfl rfl rfl (by decide) fun g => ?_)
              | (refine z_iscall ?_; first
                  | ((refine z_iscallf 44 ?_; refine o_fn rfl Try.func44 rfl rfl rfl (in_fn _) (by decide) ?_))
                  | ((refine z_iscallf 16 ?_; refine o_fn rfl Try.func16 rfl rfl rfl (has_fn _ (by assumption) _) (by decide) ?_))
                  | ((refine z_iscallf 17 ?_; refine o_fn rfl Try.func17 rfl rfl rfl (take_fn _ (by assumption) _) (by decide) ?_))
                  | ((refine z_iscallf 25 ?_; refine o_fn rfl Try.func25 rfl rfl rfl (free_fn _ (by assumption) _) (by decide) ?_))
                  | ((refine z_iscallf 12 ?_; refine o_fn rfl Try.func12 rfl rfl rfl (of_fn _) (by decide) ?_))
                  | ((refine z_iscallf 24 ?_; refine o_fn rfl Try.func24 rfl rfl rfl (block_fn _) (by decide) ?_))
                  | ((refine z_iscallf 14 ?_; refine o_fn rfl Try.func14 rfl rfl rfl (count_fn _ (by assumption) _ _) (by decide) ?_))
                  | ((refine z_iscallf 18 ?_; refine o_fn rfl Try.func18 rfl rfl rfl (awake24) (by decide) ?_))
                  | ((refine z_iscallf 23 ?_; refine o_fn rfl Try.func23 rfl rfl rfl (rof_fn _ (by assumption)) (by decide) ?_))
                  | ((refine z_iscallf 27 ?_; refine o_fn rfl Try.func27 rfl rfl rfl (rcount_is _ _ _) (by decide) ?_)))
              | (refine z_ispick ?_; first
                  | (refine o_pick1 rfl (by first | with_reducible rfl | ((with_reducible refine decide_eq_true ?_); first | with_reducible rfl | with_reducible assumption | omega) | (simp only [Bool.not_eq_true', decide_eq_false_iff_not]; omega) | (with_reducible assumption) | (rw [decide_eq_false] <;> (first | omega | with_reducible rfl)) | (rw [decide_eq_true] <;> (first | omega | with_reducible rfl)) | (simp; done) | (simp; omega)) rfl (by decide) ?_)
                  | (refine o_pick0 rfl (by first | with_reducible rfl | ((with_reducible refine decide_eq_false ?_); first | with_reducible assumption | omega) | (simp only [Bool.not_eq_false', decide_eq_true_eq]; omega) | (with_reducible assumption) | (rw [decide_eq_false] <;> (first | omega | with_reducible rfl)) | (rw [decide_eq_true] <;> (first | omega | with_reducible rfl)) | (simp; done) | (simp; omega)) rfl (by decide) ?_))
              | (refine z_isix ?_; first
                  | refine o_index0 tabOk rfl rfl rfl rfl (by omega) (by omega) (by decide) ?_
                  | refine o_index1 tabOk rfl rfl rfl rfl (by omega) (by omega) (by decide) ?_
                  | refine o_indexsk tabOk rfl rfl rfl rfl (by omega) (by omega) (by decide) ?_
                  | refine o_indexs1 tabOk (by first | assumption | exact hne (by omega) | assumption) rfl rfl rfl rfl (by omega) (by omega) (by decide) ?_)
              | (refine z_isslice ?_; first
                  | refine o_slice tabOk rfl rfl rfl rfl rfl (by omega) (by omega) (by omega) (by decide) ?_
                  | refine o_slicel tabOk rfl rfl rfl rfl (by omega) (by omega) (by omega) (by decide) ?_
                  | refine o_sliceh tabOk rfl rfl rfl rfl (by omega) (by omega) (by decide) ?_
                  | refine o_slp tabOk rfl rfl rfl rfl rfl (by omega) (by omega) (by omega) (by omega) (by decide) ?_
                  | refine o_slpl tabOk rfl rfl rfl rfl (by omega) (by omega) (by decide) ?_
                  | refine o_slp0 tabOk rfl rfl rfl rfl (by decide) ?_)
              | (refine z_isbi ?_; first
                  | refine o_len tabOk rfl rfl (by decide) ?_
                  | refine o_min rfl rfl (by decide) ?_
                  | refine o_max rfl rfl (by decide) ?_
                  | refine o_append rfl tabOk zeroOk rfl rfl rfl rfl rfl rfl (by first | exact own_rds 0 rfl | exact Rds.cons _ (Rds.cons _ (Rds.cons _ hrl)) | exact Rds.cons _ (Rds.cons _ (Rds.cons _ (Rds.cons _ hrl))) | exact Rds.cons _ (Rds.cons _ (Rds.cons _ (Rds.cons _ (Rds.cons _ hrl)))) | assumption) (by first | rfl | simp) (by first | rfl | simp) (by omega) (by omega) (by decide) fun A' c' => ?_
                  | (refine z_front rfl 1 rfl ?_; refine o_append rfl tabOk zeroOk rfl rfl rfl rfl rfl rfl (by first | exact own_rds 0 rfl | exact Rds.cons _ (Rds.cons _ (Rds.cons _ hrl)) | exact Rds.cons _ (Rds.cons _ (Rds.cons _ (Rds.cons _ hrl))) | exact Rds.cons _ (Rds.cons _ (Rds.cons _ (Rds.cons _ (Rds.cons _ hrl)))) | assumption) (by first | rfl | simp) (by first | rfl | simp) (by omega) (by omega) (by decide) fun A' c' => ?_)
                  | (refine z_front rfl 2 rfl ?_; refine o_append rfl tabOk zeroOk rfl rfl rfl rfl rfl rfl (by first | exact own_rds 0 rfl | exact Rds.cons _ (Rds.cons _ (Rds.cons _ hrl)) | exact Rds.cons _ (Rds.cons _ (Rds.cons _ (Rds.cons _ hrl))) | exact Rds.cons _ (Rds.cons _ (Rds.cons _ (Rds.cons _ (Rds.cons _ hrl)))) | assumption) (by first | rfl | simp) (by first | rfl | simp) (by omega) (by omega) (by decide) fun A' c' => ?_)
                  | (refine z_front rfl 3 rfl ?_; refine o_append rfl tabOk zeroOk rfl rfl rfl rfl rfl rfl (by first | exact own_rds 0 rfl | exact Rds.cons _ (Rds.cons _ (Rds.cons _ hrl)) | exact Rds.cons _ (Rds.cons _ (Rds.cons _ (Rds.cons _ hrl))) | exact Rds.cons _ (Rds.cons _ (Rds.cons _ (Rds.cons _ (Rds.cons _ hrl)))) | assumption) (by first | rfl | simp) (by first | rfl | simp) (by omega) (by omega) (by decide) fun A' c' => ?_)
                  | (refine z_front rfl 4 rfl ?_; refine o_append rfl tabOk zeroOk rfl rfl rfl rfl rfl rfl (by first | exact own_rds 0 rfl | exact Rds.cons _ (Rds.cons _ (Rds.cons _ hrl)) | exact Rds.cons _ (Rds.cons _ (Rds.cons _ (Rds.cons _ hrl))) | exact Rds.cons _ (Rds.cons _ (Rds.cons _ (Rds.cons _ (Rds.cons _ hrl)))) | assumption) (by first | rfl | simp) (by first | rfl | simp) (by omega) (by omega) (by decide) fun A' c' => ?_)
                  | (refine z_front rfl 5 rfl ?_; refine o_append rfl tabOk zeroOk rfl rfl rfl rfl rfl rfl (by first | exact own_rds 0 rfl | exact Rds.cons _ (Rds.cons _ (Rds.cons _ hrl)) | exact Rds.cons _ (Rds.cons _ (Rds.cons _ (Rds.cons _ hrl))) | exact Rds.cons _ (Rds.cons _ (Rds.cons _ (Rds.cons _ (Rds.cons _ hrl)))) | assumption) (by first | rfl | simp) (by first | rfl | simp) (by omega) (by omega) (by decide) fun A' c' => ?_))
              | refine o_move rfl (by decide) ?_
              | refine o_assign rfl (by decide) ?_
              | refine o_nil rfl (by decide) ?_
              | refine o_extract rfl rfl (by decide) ?_
              | refine o_not rfl (by decide) ?_
              | refine o_field0 tabOk rfl rfl rfl rfl rfl (by decide) ?_
              | refine o_field tabOk rfl rfl rfl rfl rfl (by decide) ?_
              | refine o_conv tabOk rfl rfl rfl (by decide) ?_))
      · have e3 : (!(hasB (takeB r v true) v == decide (((i : Nat) : Int) % 3 ≠ 2))) = false := by rw [e1]; simp [hm]
        have ex : rm (upd (tb r) v.toNat (decide (((i : Nat) : Int) % 3 ≠ 2))) = rm (tb (takeB r v true)) := by rw [← x_upd hr hin]; simp [hm]
        have e4 : (!eqB (bm r) (bm r)) = false := by rw [es]; rfl
        repeat' (first
          | (refine s_is ?_; first
              | refine c_monot (id := 8) 7 mixed (by kernel_rfl) rfl ?_
              | (refine s_isagain ?_; first
                  | (exact c_again (takeB r v true, i + 1) ⟨ht1, by dsimp only; omega⟩ (by dsimp only; omega) ⟨rfl, rfl, rfl, rfl, rfl, rfl, trivial⟩ (fun w h => by rw [ex] at h; exact h.mask [false, false, true, true, true, true])))
              | (refine s_isw ?_; first
                  | refine c_seq ?_
                  | refine c_block ?_
                  | ((refine c_region_keep [0, 1, 2, 3, 8, 9, 10, 11, 12, 13, 14, 15, 16, 17, 18] (by repeat (first | exact keep_nil | exact keep_end | apply keep_no rfl | apply keep_yes rfl rfl)) ?_; first | refine c_region ?_ | refine c_mixed mixed (by kernel_rfl) ?_))
                  | refine c_mixed mixed (by kernel_rfl) ?_
                  | refine c_skip ?_
                  | refine c_ret ?_
                  | refine c_exit ?_
                  | (refine s_iscond ?_; first
                      | (refine c_true rfl (by first | with_reducible rfl | ((with_reducible refine decide_eq_true ?_); first | with_reducible rfl | with_reducible assumption | omega) | (simp only [Bool.not_eq_true', decide_eq_false_iff_not]; omega) | (with_reducible assumption) | (rw [decide_eq_false] <;> (first | omega | with_reducible rfl)) | (rw [decide_eq_true] <;> (first | omega | with_reducible rfl)) | (simp; done) | (simp; omega)) ?_)
                      | (refine c_false rfl (by first | with_reducible rfl | ((with_reducible refine decide_eq_false ?_); first | with_reducible assumption | omega) | (simp only [Bool.not_eq_false', decide_eq_true_eq]; omega) | (with_reducible assumption) | (rw [decide_eq_false] <;> (first | omega | with_reducible rfl)) | (rw [decide_eq_true] <;> (first | omega | with_reducible rfl)) | (simp; done) | (simp; omega)) ?_)
                      | refine c_cond rfl (fun hc => ?_) (fun hc => ?_)
                      | refine c_condb rfl (fun hc => ?_) (fun hc => ?_)))
              | refine x_then ?_
              | refine x_then_ret ?_
              | refine x_then_exit ?_
              | refine x_block _ ?_
              | refine x_block_ret _ ?_
              | refine x_block_exit _ ?_
              | refine x_block_past (by decide) ?_
              | refine z_tailm ?_)
          | (refine z_isguard ?_; first
              | (refine z_want rfl rfl (by first | with_reducible rfl | ((with_reducible refine decide_eq_true ?_); first | with_reducible rfl | with_reducible assumption | omega) | ((with_reducible refine decide_eq_false ?_); first | with_reducible assumption | omega) | (simp only [Bool.not_eq_true', Bool.not_eq_false', decide_eq_false_iff_not, decide_eq_true_eq]; omega) | (with_reducible assumption) | (rw [decide_eq_false] <;> (first | omega | with_reducible rfl)) | (rw [decide_eq_true] <;> (first | omega | with_reducible rfl)) | (simp; done) | (simp; omega)) ?_)
              | (refine z_skip (by decide) rfl rfl (by first | with_reducible rfl | ((with_reducible refine decide_eq_true ?_); first | with_reducible rfl | with_reducible assumption | omega) | ((with_reducible refine decide_eq_false ?_); first | with_reducible assumption | omega) | (simp only [Bool.not_eq_true', Bool.not_eq_false', decide_eq_false_iff_not, decide_eq_true_eq]; omega) | (with_reducible assumption) | (rw [decide_eq_false] <;> (first | omega | with_reducible rfl)) | (rw [decide_eq_true] <;> (first | omega | with_reducible rfl)) | (simp; done) | (simp; omega)) ?_)
              | refine z_skipu (by decide) rfl rfl ?_
              | refine z_guard1 (by decide) rfl rfl (fun hc => ?_) (fun hc => ?_)
              | refine z_guard0 (by decide) rfl rfl (fun hc => ?_) (fun hc => ?_)
              | refine z_guardb (by decide) rfl rfl (fun hc => ?_) (fun hc => ?_))
          | (refine z_isnil ?_; first
              | refine z_list ?_
              | refine z_mixed ?_
              | refine z_mono0 ?_
              | refine z_mono1 (by decide) fun g => ?_
              | refine z_mono2 (by decide) (by decide) fun g g' => ?_
              | refine z_mixedx ?_
              | refine z_quiet ?_)
          | (refine z_isop ?_; first
              | refine o_boxa rfl rfl (by decide) fun g => ?_
              | refine o_alloca (e := 26) (vs := bm (fun _ => 0)) rfl (by kernel_rfl) (by decide) fun g => ?_
              | refine o_alloca (e := 24) (vs := bm (fun _ => 0)) rfl (by kernel_rfl) (by decide) fun g => ?_
              | refine o_alloca (e := 23) (vs := bm (fun _ => 0)) rfl (by kernel_rfl) (by decide) fun g => ?_
              | refine o_alloca (e := 49) (vs := rm (fun _ => false)) rfl (by kernel_rfl) (by decide) fun g => ?_
              | refine m_alloca (e := 26) (vs := bm (fun _ => 0)) (by kernel_rfl) ?_
              | (refine z_isbin ?_; first
                  | refine o_eqa cmp49 rfl rfl (rm_typed _) (rm_typed _) (by decide) ?_
                  | refine o_nea cmp24 rfl rfl (bm_typed _) (bm_typed _) (by decide) ?_
                  | (refine z_isb .add ?_; first
                      | refine o_add rfl rfl (by omega) (by omega) (by decide) ?_
                      | refine o_addw rfl rfl (by decide) ?_)
                  | (refine z_isb .sub ?_; first
                      | refine o_sub rfl rfl (by omega) (by omega) (by decide) ?_
                      | refine o_subw rfl rfl (by decide) ?_)
                  | (refine z_isb .mul ?_; first
                      | refine o_mul rfl rfl (by omega) (by omega) (by decide) ?_
                      | refine o_mulw rfl rfl (by decide) ?_)
                  | (refine z_isb .eql ?_; first
                      | refine o_eq rfl rfl (by decide) ?_
                      | refine o_beq tabOk rfl rfl rfl (by decide) ?_
                      | refine o_peq tabOk rfl rfl (by decide) ?_)
                  | (refine z_isb .neq ?_; first
                      | refine o_ne rfl rfl (by decide) ?_
                      | refine o_bne tabOk rfl rfl rfl (by decide) ?_
                      | refine o_pne tabOk rfl rfl (by decide) ?_)
                  | (refine z_isb .lss ?_; first
                      | refine o_lt rfl rfl (by decide) ?_)
                  | (refine z_isb .leq ?_; first
                      | refine o_le rfl rfl (by decide) ?_)
                  | (refine z_isb .gtr ?_; first
                      | refine o_gt rfl rfl (by decide) ?_)
                  | (refine z_isb .geq ?_; first
                      | refine o_ge rfl rfl (by decide) ?_)
                  | (refine z_isb .quo ?_; first
                      | refine o_quo rfl rfl (by omega) (by omega) (by omega) (by decide) ?_
                      | refine o_quo8 rfl rfl (by omega) (by omega) (by omega) (by decide) ?_
                      | refine o_quot rfl rfl (by omega) (by decide) ?_)
                  | (refine z_isb .rem ?_; first
                      | refine o_rem rfl rfl (by omega) (by omega) (by decide) ?_
                      | refine o_remk rfl rfl (by omega) (by omega) (by decide) ?_
                      | refine o_remt rfl rfl (by omega) (by decide) ?_)
                  | (refine z_isb .and ?_; first
                      | refine o_and rfl rfl (by decide) ?_)
                  | (refine z_isb .or ?_; first
                      | refine o_or rfl rfl (by decide) ?_)
                  | (refine z_isb .andNot ?_; first
                      | refine o_andNot rfl rfl (by decide) ?_)
                  | (refine z_isb .shl ?_; first
                      | refine o_shl rfl rfl (by omega) (by decide) ?_)
                  | (refine z_isb .shr ?_; first
                      | refine o_shr rfl rfl (by omega) (by decide) ?_))
              | (refine z_isload ?_; first
                  | (refine z_ld1 tabOk rfl rfl ?_; first
                      | ((refine z_ldi 0 rfl rfl ?_; refine o_load tabOk rfl rfl rfl 0 rfl (by first | exact hv | exact bm_at _ (by omega) | exact rm_at _ (by omega) | rfl) (by decide) ?_))
                      | ((refine z_ldi 1 rfl rfl ?_; refine o_load tabOk rfl rfl rfl 1 rfl (by first | exact hv | exact bm_at _ (by omega) | exact rm_at _ (by omega) | rfl) (by decide) ?_))
                      | ((refine z_ldi 2 rfl rfl ?_; refine o_load tabOk rfl rfl rfl 2 rfl (by first | exact hv | exact bm_at _ (by omega) | exact rm_at _ (by omega) | rfl) (by decide) ?_))
                      | ((refine z_ldi 3 rfl rfl ?_; refine o_load tabOk rfl rfl rfl 3 rfl (by first | exact hv | exact bm_at _ (by omega) | exact rm_at _ (by omega) | rfl) (by decide) ?_))
                      | ((refine z_ldi 4 rfl rfl ?_; refine o_load tabOk rfl rfl rfl 4 rfl (by first | exact hv | exact bm_at _ (by omega) | exact rm_at _ (by omega) | rfl) (by decide) ?_))
                      | ((refine z_ldi 5 rfl rfl ?_; refine o_load tabOk rfl rfl rfl 5 rfl (by first | exact hv | exact bm_at _ (by omega) | exact rm_at _ (by omega) | rfl) (by decide) ?_))
                      | ((refine z_ldi 6 rfl rfl ?_; refine o_load tabOk rfl rfl rfl 6 rfl (by first | exact hv | exact bm_at _ (by omega) | exact rm_at _ (by omega) | rfl) (by decide) ?_))
                      | refine o_loads tabOk (by first | exact own_rds 0 rfl | exact Rds.cons _ (Rds.cons _ (Rds.cons _ hrl)) | exact Rds.cons _ (Rds.cons _ (Rds.cons _ (Rds.cons _ hrl))) | exact Rds.cons _ (Rds.cons _ (Rds.cons _ (Rds.cons _ (Rds.cons _ hrl)))) | assumption) rfl rfl rfl (by first | exact hv | exact bm_at _ (by omega) | exact rm_at _ (by omega) | rfl) (by decide) ?_)
                  | (refine z_ldw tabOk rfl rfl ?_; first
                      | ((refine z_ldi 0 rfl rfl ?_; refine o_loadw tabOk rfl rfl rfl 0 rfl (by first | exact bm_len _ | exact rm_len _ | (simp only [bm_len, rm_len]) | rfl) (by decide) ?_))
                      | ((refine z_ldi 1 rfl rfl ?_; refine o_loadw tabOk rfl rfl rfl 1 rfl (by first | exact bm_len _ | exact rm_len _ | (simp only [bm_len, rm_len]) | rfl) (by decide) ?_))
                      | ((refine z_ldi 2 rfl rfl ?_; refine o_loadw tabOk rfl rfl rfl 2 rfl (by first | exact bm_len _ | exact rm_len _ | (simp only [bm_len, rm_len]) | rfl) (by decide) ?_))
                      | ((refine z_ldi 3 rfl rfl ?_; refine o_loadw tabOk rfl rfl rfl 3 rfl (by first | exact bm_len _ | exact rm_len _ | (simp only [bm_len, rm_len]) | rfl) (by decide) ?_))
                      | ((refine z_ldi 4 rfl rfl ?_; refine o_loadw tabOk rfl rfl rfl 4 rfl (by first | exact bm_len _ | exact rm_len _ | (simp only [bm_len, rm_len]) | rfl) (by decide) ?_))
                      | ((refine z_ldi 5 rfl rfl ?_; refine o_loadw tabOk rfl rfl rfl 5 rfl (by first | exact bm_len _ | exact rm_len _ | (simp only [bm_len, rm_len]) | rfl) (by decide) ?_))
                      | ((refine z_ldi 6 rfl rfl ?_; refine o_loadw tabOk rfl rfl rfl 6 rfl (by first | exact bm_len _ | exact rm_len _ | (simp only [bm_len, rm_len]) | rfl) (by decide) ?_))))
              | (refine z_isstore ?_; first
                  | (refine z_stw rfl ?_; first
                      | ((refine z_sti 0 rfl rfl ?_; refine o_storeb0 rfl tabOk rfl rfl rfl (by first | exact bm_len _ | exact rm_len _ | (simp only [bm_len, rm_len]) | rfl) (by first | exact bm_one _ | exact rm_one _ | rfl) (by first | exact bm_len _ | exact rm_len _ | (simp only [bm_len, rm_len]) | rfl) ?_))
                      | ((refine z_sti 1 rfl rfl ?_; refine o_storeb1 rfl tabOk rfl rfl rfl (by first | exact bm_len _ | exact rm_len _ | (simp only [bm_len, rm_len]) | rfl) (by first | exact bm_one _ | exact rm_one _ | rfl) (by first | exact bm_len _ | exact rm_len _ | (simp only [bm_len, rm_len]) | rfl) ?_))
                      | ((refine z_sti 2 rfl rfl ?_; refine o_storeb2 rfl tabOk rfl rfl rfl (by first | exact bm_len _ | exact rm_len _ | (simp only [bm_len, rm_len]) | rfl) (by first | exact bm_one _ | exact rm_one _ | rfl) (by first | exact bm_len _ | exact rm_len _ | (simp only [bm_len, rm_len]) | rfl) ?_))
                      | ((refine z_sti 3 rfl rfl ?_; refine o_storeb3 rfl tabOk rfl rfl rfl (by first | exact bm_len _ | exact rm_len _ | (simp only [bm_len, rm_len]) | rfl) (by first | exact bm_one _ | exact rm_one _ | rfl) (by first | exact bm_len _ | exact rm_len _ | (simp only [bm_len, rm_len]) | rfl) ?_))
                      | ((refine z_sti 4 rfl rfl ?_; refine o_storeb4 rfl tabOk rfl rfl rfl (by first | exact bm_len _ | exact rm_len _ | (simp only [bm_len, rm_len]) | rfl) (by first | exact bm_one _ | exact rm_one _ | rfl) (by first | exact bm_len _ | exact rm_len _ | (simp only [bm_len, rm_len]) | rfl) ?_))
                      | ((refine z_sti 5 rfl rfl ?_; refine o_storeb5 rfl tabOk rfl rfl rfl (by first | exact bm_len _ | exact rm_len _ | (simp only [bm_len, rm_len]) | rfl) (by first | exact bm_one _ | exact rm_one _ | rfl) (by first | exact bm_len _ | exact rm_len _ | (simp only [bm_len, rm_len]) | rfl) ?_))
                      | ((refine z_sti 6 rfl rfl ?_; refine o_storeb6 rfl tabOk rfl rfl rfl (by first | exact bm_len _ | exact rm_len _ | (simp only [bm_len, rm_len]) | rfl) (by first | exact bm_one _ | exact rm_one _ | rfl) (by first | exact bm_len _ | exact rm_len _ | (simp only [bm_len, rm_len]) | rfl) ?_)))
                  | (refine z_st1 rfl rfl ?_; first
                      | refine o_store rfl tabOk rfl rfl rfl rfl rfl (by first | exact hv | exact bm_at _ (by omega) | exact rm_at _ (by omega) | rfl) (by first | exact bm_set _ _ _ | exact rm_set _ _ _ | rfl) ?_
                      | ((refine z_sti 1 rfl rfl ?_; refine o_store1 rfl tabOk rfl rfl rfl rfl rfl (by first | exact hv | exact bm_at _ (by omega) | exact rm_at _ (by omega) | rfl) (by first | exact bm_set _ _ _ | exact rm_set _ _ _ | rfl) ?_))
                      | ((refine z_sti 2 rfl rfl ?_; refine o_store2 rfl tabOk rfl rfl rfl rfl rfl (by first | exact hv | exact bm_at _ (by omega) | exact rm_at _ (by omega) | rfl) (by first | exact bm_set _ _ _ | exact rm_set _ _ _ | rfl) ?_))
                      | ((refine z_sti 3 rfl rfl ?_; refine o_store3 rfl tabOk rfl rfl rfl rfl rfl (by first | exact hv | exact bm_at _ (by omega) | exact rm_at _ (by omega) | rfl) (by first | exact bm_set _ _ _ | exact rm_set _ _ _ | rfl) ?_))
                      | ((refine z_sti 4 rfl rfl ?_; refine o_store4 rfl tabOk rfl rfl rfl rfl rfl (by first | exact hv | exact bm_at _ (by omega) | exact rm_at _ (by omega) | rfl) (by first | exact bm_set _ _ _ | exact rm_set _ _ _ | rfl) ?_))
                      | ((refine z_sti 5 rfl rfl ?_; refine o_store5 rfl tabOk rfl rfl rfl rfl rfl (by first | exact hv | exact bm_at _ (by omega) | exact rm_at _ (by omega) | rfl) (by first | exact bm_set _ _ _ | exact rm_set _ _ _ | rfl) ?_))
                      | ((refine z_sti 6 rfl rfl ?_; refine o_store6 rfl tabOk rfl rfl rfl rfl rfl (by first | exact hv | exact bm_at _ (by omega) | exact rm_at _ (by omega) | rfl) (by first | exact bm_set _ _ _ | exact rm_set _ _ _ | rfl) ?_))))
              | (refine z_isfield ?_; first
                  | refine o_fv tabOk rfl rfl rfl rfl rfl (by first | exact hv | exact bm_at _ (by omega) | exact rm_at _ (by omega) | rfl) (by decide) ?_
                  | refine o_fvw tabOk rfl rfl rfl rfl rfl (by first | exact bm_len _ | exact rm_len _ | (simp only [bm_len, rm_len]) | rfl) (by decide) ?_)
              | (refine z_isindex ?_; first
                  | refine o_ixv tabOk rfl rfl rfl rfl rfl (by omega) (by omega) (by first | exact hv | exact bm_at _ (by omega) | exact rm_at _ (by omega) | rfl) (by decide) ?_)
              | (refine z_ismakes ?_; first
                  | refine o_make1 rfl tabOk zeroOk rfl rfl rfl rfl rfl (by decide) fun g => ?_)
              | (refine z_iscall ?_; first
                  | ((refine z_iscallf 44 ?_; refine o_fn rfl Try.func44 rfl rfl rfl (in_fn _) (by decide) ?_))
                  | ((refine z_iscallf 16 ?_; refine o_fn rfl Try.func16 rfl rfl rfl (has_fn _ (by assumption) _) (by decide) ?_))
                  | ((refine z_iscallf 17 ?_; refine o_fn rfl Try.func17 rfl rfl rfl (take_fn _ (by assumption) _) (by decide) ?_))
                  | ((refine z_iscallf 25 ?_; refine o_fn rfl Try.func25 rfl rfl rfl (free_fn _ (by assumption) _) (by decide) ?_))
                  | ((refine z_iscallf 12 ?_; refine o_fn rfl Try.func12 rfl rfl rfl (of_fn _) (by decide) ?_))
                  | ((refine z_iscallf 24 ?_; refine o_fn rfl Try.func24 rfl rfl rfl (block_fn _) (by decide) ?_))
                  | ((refine z_iscallf 14 ?_; refine o_fn rfl Try.func14 rfl rfl rfl (count_fn _ (by assumption) _ _) (by decide) ?_))
                  | ((refine z_iscallf 18 ?_; refine o_fn rfl Try.func18 rfl rfl rfl (awake24) (by decide) ?_))
                  | ((refine z_iscallf 23 ?_; refine o_fn rfl Try.func23 rfl rfl rfl (rof_fn _ (by assumption)) (by decide) ?_))
                  | ((refine z_iscallf 27 ?_; refine o_fn rfl Try.func27 rfl rfl rfl (rcount_is _ _ _) (by decide) ?_)))
              | (refine z_ispick ?_; first
                  | (refine o_pick1 rfl (by first | with_reducible rfl | ((with_reducible refine decide_eq_true ?_); first | with_reducible rfl | with_reducible assumption | omega) | (simp only [Bool.not_eq_true', decide_eq_false_iff_not]; omega) | (with_reducible assumption) | (rw [decide_eq_false] <;> (first | omega | with_reducible rfl)) | (rw [decide_eq_true] <;> (first | omega | with_reducible rfl)) | (simp; done) | (simp; omega)) rfl (by decide) ?_)
                  | (refine o_pick0 rfl (by first | with_reducible rfl | ((with_reducible refine decide_eq_false ?_); first | with_reducible assumption | omega) | (simp only [Bool.not_eq_false', decide_eq_true_eq]; omega) | (with_reducible assumption) | (rw [decide_eq_false] <;> (first | omega | with_reducible rfl)) | (rw [decide_eq_true] <;> (first | omega | with_reducible rfl)) | (simp; done) | (simp; omega)) rfl (by decide) ?_))
              | (refine z_isix ?_; first
                  | refine o_index0 tabOk rfl rfl rfl rfl (by omega) (by omega) (by decide) ?_
                  | refine o_index1 tabOk rfl rfl rfl rfl (by omega) (by omega) (by decide) ?_
                  | refine o_indexsk tabOk rfl rfl rfl rfl (by omega) (by omega) (by decide) ?_
                  | refine o_indexs1 tabOk (by first | assumption | exact hne (by omega) | assumption) rfl rfl rfl rfl (by omega) (by omega) (by decide) ?_)
              | (refine z_isslice ?_; first
                  | refine o_slice tabOk rfl rfl rfl rfl rfl (by omega) (by omega) (by omega) (by decide) ?_
                  | refine o_slicel tabOk rfl rfl rfl rfl (by omega) (by omega) (by omega) (by decide) ?_
                  | refine o_sliceh tabOk rfl rfl rfl rfl (by omega) (by omega) (by decide) ?_
                  | refine o_slp tabOk rfl rfl rfl rfl rfl (by omega) (by omega) (by omega) (by omega) (by decide) ?_
                  | refine o_slpl tabOk rfl rfl rfl rfl (by omega) (by omega) (by decide) ?_
                  | refine o_slp0 tabOk rfl rfl rfl rfl (by decide) ?_)
              | (refine z_isbi ?_; first
                  | refine o_len tabOk rfl rfl (by decide) ?_
                  | refine o_min rfl rfl (by decide) ?_
                  | refine o_max rfl rfl (by decide) ?_
                  | refine o_append rfl tabOk zeroOk rfl rfl rfl rfl rfl rfl (by first | exact own_rds 0 rfl | exact Rds.cons _ (Rds.cons _ (Rds.cons _ hrl)) | exact Rds.cons _ (Rds.cons _ (Rds.cons _ (Rds.cons _ hrl))) | exact Rds.cons _ (Rds.cons _ (Rds.cons _ (Rds.cons _ (Rds.cons _ hrl)))) | assumption) (by first | rfl | simp) (by first | rfl | simp) (by omega) (by omega) (by decide) fun A' c' => ?_
                  | (refine z_front rfl 1 rfl ?_; refine o_append rfl tabOk zeroOk rfl rfl rfl rfl rfl rfl (by first | exact own_rds 0 rfl | exact Rds.cons _ (Rds.cons _ (Rds.cons _ hrl)) | exact Rds.cons _ (Rds.cons _ (Rds.cons _ (Rds.cons _ hrl))) | exact Rds.cons _ (Rds.cons _ (Rds.cons _ (Rds.cons _ (Rds.cons _ hrl)))) | assumption) (by first | rfl | simp) (by first | rfl | simp) (by omega) (by omega) (by decide) fun A' c' => ?_)
                  | (refine z_front rfl 2 rfl ?_; refine o_append rfl tabOk zeroOk rfl rfl rfl rfl rfl rfl (by first | exact own_rds 0 rfl | exact Rds.cons _ (Rds.cons _ (Rds.cons _ hrl)) | exact Rds.cons _ (Rds.cons _ (Rds.cons _ (Rds.cons _ hrl))) | exact Rds.cons _ (Rds.cons _ (Rds.cons _ (Rds.cons _ (Rds.cons _ hrl)))) | assumption) (by first | rfl | simp) (by first | rfl | simp) (by omega) (by omega) (by decide) fun A' c' => ?_)
                  | (refine z_front rfl 3 rfl ?_; refine o_append rfl tabOk zeroOk rfl rfl rfl rfl rfl rfl (by first | exact own_rds 0 rfl | exact Rds.cons _ (Rds.cons _ (Rds.cons _ hrl)) | exact Rds.cons _ (Rds.cons _ (Rds.cons _ (Rds.cons _ hrl))) | exact Rds.cons _ (Rds.cons _ (Rds.cons _ (Rds.cons _ (Rds.cons _ hrl)))) | assumption) (by first | rfl | simp) (by first | rfl | simp) (by omega) (by omega) (by decide) fun A' c' => ?_)
                  | (refine z_front rfl 4 rfl ?_; refine o_append rfl tabOk zeroOk rfl rfl rfl rfl rfl rfl (by first | exact own_rds 0 rfl | exact Rds.cons _ (Rds.cons _ (Rds.cons _ hrl)) | exact Rds.cons _ (Rds.cons _ (Rds.cons _ (Rds.cons _ hrl))) | exact Rds.cons _ (Rds.cons _ (Rds.cons _ (Rds.cons _ (Rds.cons _ hrl)))) | assumption) (by first | rfl | simp) (by first | rfl | simp) (by omega) (by omega) (by decide) fun A' c' => ?_)
                  | (refine z_front rfl 5 rfl ?_; refine o_append rfl tabOk zeroOk rfl rfl rfl rfl rfl rfl (by first | exact own_rds 0 rfl | exact Rds.cons _ (Rds.cons _ (Rds.cons _ hrl)) | exact Rds.cons _ (Rds.cons _ (Rds.cons _ (Rds.cons _ hrl))) | exact Rds.cons _ (Rds.cons _ (Rds.cons _ (Rds.cons _ (Rds.cons _ hrl)))) | assumption) (by first | rfl | simp) (by first | rfl | simp) (by omega) (by omega) (by decide) fun A' c' => ?_))
              | refine o_move rfl (by decide) ?_
              | refine o_assign rfl (by decide) ?_
              | refine o_nil rfl (by decide) ?_
              | refine o_extract rfl rfl (by decide) ?_
              | refine o_not rfl (by decide) ?_
              | refine o_field0 tabOk rfl rfl rfl rfl rfl (by decide) ?_
              | refine o_field tabOk rfl rfl rfl rfl rfl (by decide) ?_
              | refine o_conv tabOk rfl rfl rfl (by decide) ?_))
    · have e1 : hasB r v = false := by unfold hasB; simp [hin]
      have et := take_out (r := r) hin true
      have ef := take_out (r := r) hin false
      by_cases hm : ((i : Nat) : Int) % 3 = 2
      · have e3 : (!(hasB (takeB r v false) v == false)) = false := by rw [ef, e1]; rfl
        have e4 : (!eqB (bm r) (bm r)) = false := by rw [es]; rfl
        repeat' (first
          | (refine s_is ?_; first
              | refine c_monot (id := 8) 7 mixed (by kernel_rfl) rfl ?_
              | (refine s_isagain ?_; first
                  | (exact c_again (r, i + 1) ⟨hr, by dsimp only; omega⟩ (by dsimp only; omega) ⟨rfl, rfl, rfl, rfl, rfl, rfl, trivial⟩ (fun w h => by dsimp only; rw [ef] at h; exact h.mask [false, false, true, true, true, true])))
              | (refine s_isw ?_; first
                  | refine c_seq ?_
                  | refine c_block ?_
                  | ((refine c_region_keep [0, 1, 2, 3, 8, 9, 10, 11, 12, 13, 14, 15, 16, 17, 18] (by repeat (first | exact keep_nil | exact keep_end | apply keep_no rfl | apply keep_yes rfl rfl)) ?_; first | refine c_region ?_ | refine c_mixed mixed (by kernel_rfl) ?_))
                  | refine c_mixed mixed (by kernel_rfl) ?_
                  | refine c_skip ?_
                  | refine c_ret ?_
                  | refine c_exit ?_
                  | (refine s_iscond ?_; first
                      | (refine c_true rfl (by first | with_reducible rfl | ((with_reducible refine decide_eq_true ?_); first | with_reducible rfl | with_reducible assumption | omega) | (simp only [Bool.not_eq_true', decide_eq_false_iff_not]; omega) | (with_reducible assumption) | (rw [decide_eq_false] <;> (first | omega | with_reducible rfl)) | (rw [decide_eq_true] <;> (first | omega | with_reducible rfl)) | (simp; done) | (simp; omega)) ?_)
                      | (refine c_false rfl (by first | with_reducible rfl | ((with_reducible refine decide_eq_false ?_); first | with_reducible assumption | omega) | (simp only [Bool.not_eq_false', decide_eq_true_eq]; omega) | (with_reducible assumption) | (rw [decide_eq_false] <;> (first | omega | with_reducible rfl)) | (rw [decide_eq_true] <;> (first | omega | with_reducible rfl)) | (simp; done) | (simp; omega)) ?_)
                      | refine c_cond rfl (fun hc => ?_) (fun hc => ?_)
                      | refine c_condb rfl (fun hc => ?_) (fun hc => ?_)))
              | refine x_then ?_
              | refine x_then_ret ?_
              | refine x_then_exit ?_
              | refine x_block _ ?_
              | refine x_block_ret _ ?_
              | refine x_block_exit _ ?_
              | refine x_block_past (by decide) ?_
              | refine z_tailm ?_)
          | (refine z_isguard ?_; first
              | (refine z_want rfl rfl (by first | with_reducible rfl | ((with_reducible refine decide_eq_true ?_); first | with_reducible rfl | with_reducible assumption | omega) | ((with_reducible refine decide_eq_false ?_); first | with_reducible assumption | omega) | (simp only [Bool.not_eq_true', Bool.not_eq_false', decide_eq_false_iff_not, decide_eq_true_eq]; omega) | (with_reducible assumption) | (rw [decide_eq_false] <;> (first | omega | with_reducible rfl)) | (rw [decide_eq_true] <;> (first | omega | with_reducible rfl)) | (simp; done) | (simp; omega)) ?_)
              | (refine z_skip (by decide) rfl rfl (by first | with_reducible rfl | ((with_reducible refine decide_eq_true ?_); first | with_reducible rfl | with_reducible assumption | omega) | ((with_reducible refine decide_eq_false ?_); first | with_reducible assumption | omega) | (simp only [Bool.not_eq_true', Bool.not_eq_false', decide_eq_false_iff_not, decide_eq_true_eq]; omega) | (with_reducible assumption) | (rw [decide_eq_false] <;> (first | omega | with_reducible rfl)) | (rw [decide_eq_true] <;> (first | omega | with_reducible rfl)) | (simp; done) | (simp; omega)) ?_)
              | refine z_skipu (by decide) rfl rfl ?_
              | refine z_guard1 (by decide) rfl rfl (fun hc => ?_) (fun hc => ?_)
              | refine z_guard0 (by decide) rfl rfl (fun hc => ?_) (fun hc => ?_)
              | refine z_guardb (by decide) rfl rfl (fun hc => ?_) (fun hc => ?_))
          | (refine z_isnil ?_; first
              | refine z_list ?_
              | refine z_mixed ?_
              | refine z_mono0 ?_
              | refine z_mono1 (by decide) fun g => ?_
              | refine z_mono2 (by decide) (by decide) fun g g' => ?_
              | refine z_mixedx ?_
              | refine z_quiet ?_)
          | (refine z_isop ?_; first
              | refine o_boxa rfl rfl (by decide) fun g => ?_
              | refine o_alloca (e := 26) (vs := bm (fun _ => 0)) rfl (by kernel_rfl) (by decide) fun g => ?_
              | refine o_alloca (e := 24) (vs := bm (fun _ => 0)) rfl (by kernel_rfl) (by decide) fun g => ?_
              | refine o_alloca (e := 23) (vs := bm (fun _ => 0)) rfl (by kernel_rfl) (by decide) fun g => ?_
              | refine o_alloca (e := 49) (vs := rm (fun _ => false)) rfl (by kernel_rfl) (by decide) fun g => ?_
              | refine m_alloca (e := 26) (vs := bm (fun _ => 0)) (by kernel_rfl) ?_
              | (refine z_isbin ?_; first
                  | refine o_eqa cmp49 rfl rfl (rm_typed _) (rm_typed _) (by decide) ?_
                  | refine o_nea cmp24 rfl rfl (bm_typed _) (bm_typed _) (by decide) ?_
                  | (refine z_isb .add ?_; first
                      | refine o_add rfl rfl (by omega) (by omega) (by decide) ?_
                      | refine o_addw rfl rfl (by decide) ?_)
                  | (refine z_isb .sub ?_; first
                      | refine o_sub rfl rfl (by omega) (by omega) (by decide) ?_
                      | refine o_subw rfl rfl (by decide) ?_)
                  | (refine z_isb .mul ?_; first
                      | refine o_mul rfl rfl (by omega) (by omega) (by decide) ?_
                      | refine o_mulw rfl rfl (by decide) ?_)
                  | (refine z_isb .eql ?_; first
                      | refine o_eq rfl rfl (by decide) ?_
                      | refine o_beq tabOk rfl rfl rfl (by decide) ?_
                      | refine o_peq tabOk rfl rfl (by decide) ?_)
                  | (refine z_isb .neq ?_; first
                      | refine o_ne rfl rfl (by decide) ?_
                      | refine o_bne tabOk rfl rfl rfl (by decide) ?_
                      | refine o_pne tabOk rfl rfl (by decide) ?_)
                  | (refine z_isb .lss ?_; first
                      | refine o_lt rfl rfl (by decide) ?_)
                  | (refine z_isb .leq ?_; first
                      | refine o_le rfl rfl (by decide) ?_)
                  | (refine z_isb .gtr ?_; first
                      | refine o_gt rfl rfl (by decide) ?_)
                  | (refine z_isb .geq ?_; first
                      | refine o_ge rfl rfl (by decide) ?_)
                  | (refine z_isb .quo ?_; first
                      | refine o_quo rfl rfl (by omega) (by omega) (by omega) (by decide) ?_
                      | refine o_quo8 rfl rfl (by omega) (by omega) (by omega) (by decide) ?_
                      | refine o_quot rfl rfl (by omega) (by decide) ?_)
                  | (refine z_isb .rem ?_; first
                      | refine o_rem rfl rfl (by omega) (by omega) (by decide) ?_
                      | refine o_remk rfl rfl (by omega) (by omega) (by decide) ?_
                      | refine o_remt rfl rfl (by omega) (by decide) ?_)
                  | (refine z_isb .and ?_; first
                      | refine o_and rfl rfl (by decide) ?_)
                  | (refine z_isb .or ?_; first
                      | refine o_or rfl rfl (by decide) ?_)
                  | (refine z_isb .andNot ?_; first
                      | refine o_andNot rfl rfl (by decide) ?_)
                  | (refine z_isb .shl ?_; first
                      | refine o_shl rfl rfl (by omega) (by decide) ?_)
                  | (refine z_isb .shr ?_; first
                      | refine o_shr rfl rfl (by omega) (by decide) ?_))
              | (refine z_isload ?_; first
                  | (refine z_ld1 tabOk rfl rfl ?_; first
                      | ((refine z_ldi 0 rfl rfl ?_; refine o_load tabOk rfl rfl rfl 0 rfl (by first | exact hv | exact bm_at _ (by omega) | exact rm_at _ (by omega) | rfl) (by decide) ?_))
                      | ((refine z_ldi 1 rfl rfl ?_; refine o_load tabOk rfl rfl rfl 1 rfl (by first | exact hv | exact bm_at _ (by omega) | exact rm_at _ (by omega) | rfl) (by decide) ?_))
                      | ((refine z_ldi 2 rfl rfl ?_; refine o_load tabOk rfl rfl rfl 2 rfl (by first | exact hv | exact bm_at _ (by omega) | exact rm_at _ (by omega) | rfl) (by decide) ?_))
                      | ((refine z_ldi 3 rfl rfl ?_; refine o_load tabOk rfl rfl rfl 3 rfl (by first | exact hv | exact bm_at _ (by omega) | exact rm_at _ (by omega) | rfl) (by decide) ?_))
                      | ((refine z_ldi 4 rfl rfl ?_; refine o_load tabOk rfl rfl rfl 4 rfl (by first | exact hv | exact bm_at _ (by omega) | exact rm_at _ (by omega) | rfl) (by decide) ?_))
                      | ((refine z_ldi 5 rfl rfl ?_; refine o_load tabOk rfl rfl rfl 5 rfl (by first | exact hv | exact bm_at _ (by omega) | exact rm_at _ (by omega) | rfl) (by decide) ?_))
                      | ((refine z_ldi 6 rfl rfl ?_; refine o_load tabOk rfl rfl rfl 6 rfl (by first | exact hv | exact bm_at _ (by omega) | exact rm_at _ (by omega) | rfl) (by decide) ?_))
                      | refine o_loads tabOk (by first | exact own_rds 0 rfl | exact Rds.cons _ (Rds.cons _ (Rds.cons _ hrl)) | exact Rds.cons _ (Rds.cons _ (Rds.cons _ (Rds.cons _ hrl))) | exact Rds.cons _ (Rds.cons _ (Rds.cons _ (Rds.cons _ (Rds.cons _ hrl)))) | assumption) rfl rfl rfl (by first | exact hv | exact bm_at _ (by omega) | exact rm_at _ (by omega) | rfl) (by decide) ?_)
                  | (refine z_ldw tabOk rfl rfl ?_; first
                      | ((refine z_ldi 0 rfl rfl ?_; refine o_loadw tabOk rfl rfl rfl 0 rfl (by first | exact bm_len _ | exact rm_len _ | (simp only [bm_len, rm_len]) | rfl) (by decide) ?_))
                      | ((refine z_ldi 1 rfl rfl ?_; refine o_loadw tabOk rfl rfl rfl 1 rfl (by first | exact bm_len _ | exact rm_len _ | (simp only [bm_len, rm_len]) | rfl) (by decide) ?_))
                      | ((refine z_ldi 2 rfl rfl ?_; refine o_loadw tabOk rfl rfl rfl 2 rfl (by first | exact bm_len _ | exact rm_len _ | (simp only [bm_len, rm_len]) | rfl) (by decide) ?_))
                      | ((refine z_ldi 3 rfl rfl ?_; refine o_loadw tabOk rfl rfl rfl 3 rfl (by first | exact bm_len _ | exact rm_len _ | (simp only [bm_len, rm_len]) | rfl) (by decide) ?_))
                      | ((refine z_ldi 4 rfl rfl ?_; refine o_loadw tabOk rfl rfl rfl 4 rfl (by first | exact bm_len _ | exact rm_len _ | (simp only [bm_len, rm_len]) | rfl) (by decide) ?_))
                      | ((refine z_ldi 5 rfl rfl ?_; refine o_loadw tabOk rfl rfl rfl 5 rfl (by first | exact bm_len _ | exact rm_len _ | (simp only [bm_len, rm_len]) | rfl) (by decide) ?_))
                      | ((refine z_ldi 6 rfl rfl ?_; refine o_loadw tabOk rfl rfl rfl 6 rfl (by first | exact bm_len _ | exact rm_len _ | (simp only [bm_len, rm_len]) | rfl) (by decide) ?_))))
              | (refine z_isstore ?_; first
                  | (refine z_stw rfl ?_; first
                      | ((refine z_sti 0 rfl rfl ?_; refine o_storeb0 rfl tabOk rfl rfl rfl (by first | exact bm_len _ | exact rm_len _ | (simp only [bm_len, rm_len]) | rfl) (by first | exact bm_one _ | exact rm_one _ | rfl) (by first | exact bm_len _ | exact rm_len _ | (simp only [bm_len, rm_len]) | rfl) ?_))
                      | ((refine z_sti 1 rfl rfl ?_; refine o_storeb1 rfl tabOk rfl rfl rfl (by first | exact bm_len _ | exact rm_len _ | (simp only [bm_len, rm_len]) | rfl) (by first | exact bm_one _ | exact rm_one _ | rfl) (by first | exact bm_len _ | exact rm_len _ | (simp only [bm_len, rm_len]) | rfl) ?_))
                      | ((refine z_sti 2 rfl rfl ?_; refine o_storeb2 rfl tabOk rfl rfl rfl (by first | exact bm_len _ | exact rm_len _ | (simp only [bm_len, rm_len]) | rfl) (by first | exact bm_one _ | exact rm_one _ | rfl) (by first | exact bm_len _ | exact rm_len _ | (simp only [bm_len, rm_len]) | rfl) ?_))
                      | ((refine z_sti 3 rfl rfl ?_; refine o_storeb3 rfl tabOk rfl rfl rfl (by first | exact bm_len _ | exact rm_len _ | (simp only [bm_len, rm_len]) | rfl) (by first | exact bm_one _ | exact rm_one _ | rfl) (by first | exact bm_len _ | exact rm_len _ | (simp only [bm_len, rm_len]) | rfl) ?_))
                      | ((refine z_sti 4 rfl rfl ?_; refine o_storeb4 rfl tabOk rfl rfl rfl (by first | exact bm_len _ | exact rm_len _ | (simp only [bm_len, rm_len]) | rfl) (by first | exact bm_one _ | exact rm_one _ | rfl) (by first | exact bm_len _ | exact rm_len _ | (simp only [bm_len, rm_len]) | rfl) ?_))
                      | ((refine z_sti 5 rfl rfl ?_; refine o_storeb5 rfl tabOk rfl rfl rfl (by first | exact bm_len _ | exact rm_len _ | (simp only [bm_len, rm_len]) | rfl) (by first | exact bm_one _ | exact rm_one _ | rfl) (by first | exact bm_len _ | exact rm_len _ | (simp only [bm_len, rm_len]) | rfl) ?_))
                      | ((refine z_sti 6 rfl rfl ?_; refine o_storeb6 rfl tabOk rfl rfl rfl (by first | exact bm_len _ | exact rm_len _ | (simp only [bm_len, rm_len]) | rfl) (by first | exact bm_one _ | exact rm_one _ | rfl) (by first | exact bm_len _ | exact rm_len _ | (simp only [bm_len, rm_len]) | rfl) ?_)))
                  | (refine z_st1 rfl rfl ?_; first
                      | refine o_store rfl tabOk rfl rfl rfl rfl rfl (by first | exact hv | exact bm_at _ (by omega) | exact rm_at _ (by omega) | rfl) (by first | exact bm_set _ _ _ | exact rm_set _ _ _ | rfl) ?_
                      | ((refine z_sti 1 rfl rfl ?_; refine o_store1 rfl tabOk rfl rfl rfl rfl rfl (by first | exact hv | exact bm_at _ (by omega) | exact rm_at _ (by omega) | rfl) (by first | exact bm_set _ _ _ | exact rm_set _ _ _ | rfl) ?_))
                      | ((refine z_sti 2 rfl rfl ?_; refine o_store2 rfl tabOk rfl rfl rfl rfl rfl (by first | exact hv | exact bm_at _ (by omega) | exact rm_at _ (by omega) | rfl) (by first | exact bm_set _ _ _ | exact rm_set _ _ _ | rfl) ?_))
                      | ((refine z_sti 3 rfl rfl ?_; refine o_store3 rfl tabOk rfl rfl rfl rfl rfl (by first | exact hv | exact bm_at _ (by omega) | exact rm_at _ (by omega) | rfl) (by first | exact bm_set _ _ _ | exact rm_set _ _ _ | rfl) ?_))
                      | ((refine z_sti 4 rfl rfl ?_; refine o_store4 rfl tabOk rfl rfl rfl rfl rfl (by first | exact hv | exact bm_at _ (by omega) | exact rm_at _ (by omega) | rfl) (by first | exact bm_set _ _ _ | exact rm_set _ _ _ | rfl) ?_))
                      | ((refine z_sti 5 rfl rfl ?_; refine o_store5 rfl tabOk rfl rfl rfl rfl rfl (by first | exact hv | exact bm_at _ (by omega) | exact rm_at _ (by omega) | rfl) (by first | exact bm_set _ _ _ | exact rm_set _ _ _ | rfl) ?_))
                      | ((refine z_sti 6 rfl rfl ?_; refine o_store6 rfl tabOk rfl rfl rfl rfl rfl (by first | exact hv | exact bm_at _ (by omega) | exact rm_at _ (by omega) | rfl) (by first | exact bm_set _ _ _ | exact rm_set _ _ _ | rfl) ?_))))
              | (refine z_isfield ?_; first
                  | refine o_fv tabOk rfl rfl rfl rfl rfl (by first | exact hv | exact bm_at _ (by omega) | exact rm_at _ (by omega) | rfl) (by decide) ?_
                  | refine o_fvw tabOk rfl rfl rfl rfl rfl (by first | exact bm_len _ | exact rm_len _ | (simp only [bm_len, rm_len]) | rfl) (by decide) ?_)
              | (refine z_isindex ?_; first
                  | refine o_ixv tabOk rfl rfl rfl rfl rfl (by omega) (by omega) (by first | exact hv | exact bm_at _ (by omega) | exact rm_at _ (by omega) | rfl) (by decide) ?_)
              | (refine z_ismakes ?_; first
                  | refine o_make1 rfl tabOk zeroOk rfl rfl rfl rfl rfl (by decide) fun g => ?_)
              | (refine z_iscall ?_; first
                  | ((refine z_iscallf 44 ?_; refine o_fn rfl Try.func44 rfl rfl rfl (in_fn _) (by decide) ?_))
                  | ((refine z_iscallf 16 ?_; refine o_fn rfl Try.func16 rfl rfl rfl (has_fn _ (by assumption) _) (by decide) ?_))
                  | ((refine z_iscallf 17 ?_; refine o_fn rfl Try.func17 rfl rfl rfl (take_fn _ (by assumption) _) (by decide) ?_))
                  | ((refine z_iscallf 25 ?_; refine o_fn rfl Try.func25 rfl rfl rfl (free_fn _ (by assumption) _) (by decide) ?_))
                  | ((refine z_iscallf 12 ?_; refine o_fn rfl Try.func12 rfl rfl rfl (of_fn _) (by decide) ?_))
                  | ((refine z_iscallf 24 ?_; refine o_fn rfl Try.func24 rfl rfl rfl (block_fn _) (by decide) ?_))
                  | ((refine z_iscallf 14 ?_; refine o_fn rfl Try.func14 rfl rfl rfl (count_fn _ (by assumption) _ _) (by decide) ?_))
                  | ((refine z_iscallf 18 ?_; refine o_fn rfl Try.func18 rfl rfl rfl (awake24) (by decide) ?_))
                  | ((refine z_iscallf 23 ?_; refine o_fn rfl Try.func23 rfl rfl rfl (rof_fn _ (by assumption)) (by decide) ?_))
                  | ((refine z_iscallf 27 ?_; refine o_fn rfl Try.func27 rfl rfl rfl (rcount_is _ _ _) (by decide) ?_)))
              | (refine z_ispick ?_; first
                  | (refine o_pick1 rfl (by first | with_reducible rfl | ((with_reducible refine decide_eq_true ?_); first | with_reducible rfl | with_reducible assumption | omega) | (simp only [Bool.not_eq_true', decide_eq_false_iff_not]; omega) | (with_reducible assumption) | (rw [decide_eq_false] <;> (first | omega | with_reducible rfl)) | (rw [decide_eq_true] <;> (first | omega | with_reducible rfl)) | (simp; done) | (simp; omega)) rfl (by decide) ?_)
                  | (refine o_pick0 rfl (by first | with_reducible rfl | ((with_reducible refine decide_eq_false ?_); first | with_reducible assumption | omega) | (simp only [Bool.not_eq_false', decide_eq_true_eq]; omega) | (with_reducible assumption) | (rw [decide_eq_false] <;> (first | omega | with_reducible rfl)) | (rw [decide_eq_true] <;> (first | omega | with_reducible rfl)) | (simp; done) | (simp; omega)) rfl (by decide) ?_))
              | (refine z_isix ?_; first
                  | refine o_index0 tabOk rfl rfl rfl rfl (by omega) (by omega) (by decide) ?_
                  | refine o_index1 tabOk rfl rfl rfl rfl (by omega) (by omega) (by decide) ?_
                  | refine o_indexsk tabOk rfl rfl rfl rfl (by omega) (by omega) (by decide) ?_
                  | refine o_indexs1 tabOk (by first | assumption | exact hne (by omega) | assumption) rfl rfl rfl rfl (by omega) (by omega) (by decide) ?_)
              | (refine z_isslice ?_; first
                  | refine o_slice tabOk rfl rfl rfl rfl rfl (by omega) (by omega) (by omega) (by decide) ?_
                  | refine o_slicel tabOk rfl rfl rfl rfl (by omega) (by omega) (by omega) (by decide) ?_
                  | refine o_sliceh tabOk rfl rfl rfl rfl (by omega) (by omega) (by decide) ?_
                  | refine o_slp tabOk rfl rfl rfl rfl rfl (by omega) (by omega) (by omega) (by omega) (by decide) ?_
                  | refine o_slpl tabOk rfl rfl rfl rfl (by omega) (by omega) (by decide) ?_
                  | refine o_slp0 tabOk rfl rfl rfl rfl (by decide) ?_)
              | (refine z_isbi ?_; first
                  | refine o_len tabOk rfl rfl (by decide) ?_
                  | refine o_min rfl rfl (by decide) ?_
                  | refine o_max rfl rfl (by decide) ?_
                  | refine o_append rfl tabOk zeroOk rfl rfl rfl rfl rfl rfl (by first | exact own_rds 0 rfl | exact Rds.cons _ (Rds.cons _ (Rds.cons _ hrl)) | exact Rds.cons _ (Rds.cons _ (Rds.cons _ (Rds.cons _ hrl))) | exact Rds.cons _ (Rds.cons _ (Rds.cons _ (Rds.cons _ (Rds.cons _ hrl)))) | assumption) (by first | rfl | simp) (by first | rfl | simp) (by omega) (by omega) (by decide) fun A' c' => ?_
                  | (refine z_front rfl 1 rfl ?_; refine o_append rfl tabOk zeroOk rfl rfl rfl rfl rfl rfl (by first | exact own_rds 0 rfl | exact Rds.cons _ (Rds.cons _ (Rds.cons _ hrl)) | exact Rds.cons _ (Rds.cons _ (Rds.cons _ (Rds.cons _ hrl))) | exact Rds.cons _ (Rds.cons _ (Rds.cons _ (Rds.cons _ (Rds.cons _ hrl)))) | assumption) (by first | rfl | simp) (by first | rfl | simp) (by omega) (by omega) (by decide) fun A' c' => ?_)
                  | (refine z_front rfl 2 rfl ?_; refine o_append rfl tabOk zeroOk rfl rfl rfl rfl rfl rfl (by first | exact own_rds 0 rfl | exact Rds.cons _ (Rds.cons _ (Rds.cons _ hrl)) | exact Rds.cons _ (Rds.cons _ (Rds.cons _ (Rds.cons _ hrl))) | exact Rds.cons _ (Rds.cons _ (Rds.cons _ (Rds.cons _ (Rds.cons _ hrl)))) | assumption) (by first | rfl | simp) (by first | rfl | simp) (by omega) (by omega) (by decide) fun A' c' => ?_)
                  | (refine z_front rfl 3 rfl ?_; refine o_append rfl tabOk zeroOk rfl rfl rfl rfl rfl rfl (by first | exact own_rds 0 rfl | exact Rds.cons _ (Rds.cons _ (Rds.cons _ hrl)) | exact Rds.cons _ (Rds.cons _ (Rds.cons _ (Rds.cons _ hrl))) | exact Rds.cons _ (Rds.cons _ (Rds.cons _ (Rds.cons _ (Rds.cons _ hrl)))) | assumption) (by first | rfl | simp) (by first | rfl | simp) (by omega) (by omega) (by decide) fun A' c' => ?_)
                  | (refine z_front rfl 4 rfl ?_; refine o_append rfl tabOk zeroOk rfl rfl rfl rfl rfl rfl (by first | exact own_rds 0 rfl | exact Rds.cons _ (Rds.cons _ (Rds.cons _ hrl)) | exact Rds.cons _ (Rds.cons _ (Rds.cons _ (Rds.cons _ hrl))) | exact Rds.cons _ (Rds.cons _ (Rds.cons _ (Rds.cons _ (Rds.cons _ hrl)))) | assumption) (by first | rfl | simp) (by first | rfl | simp) (by omega) (by omega) (by decide) fun A' c' => ?_)
                  | (refine z_front rfl 5 rfl ?_; refine o_append rfl tabOk zeroOk rfl rfl rfl rfl rfl rfl (by first | exact own_rds 0 rfl | exact Rds.cons _ (Rds.cons _ (Rds.cons _ hrl)) | exact Rds.cons _ (Rds.cons _ (Rds.cons _ (Rds.cons _ hrl))) | exact Rds.cons _ (Rds.cons _ (Rds.cons _ (Rds.cons _ (Rds.cons _ hrl)))) | assumption) (by first | rfl | simp) (by first | rfl | simp) (by omega) (by omega) (by decide) fun A' c' => ?_))
              | refine o_move rfl (by decide) ?_
              | refine o_assign rfl (by decide) ?_
              | refine o_nil rfl (by decide) ?_
              | refine o_extract rfl rfl (by decide) ?_
              | refine o_not rfl (by decide) ?_
              | refine o_field0 tabOk rfl rfl rfl rfl rfl (by decide) ?_
              | refine o_field tabOk rfl rfl rfl rfl rfl (by decide) ?_
              | refine o_conv tabOk rfl rfl rfl (by decide) ?_))
      · have e3 : (!(hasB (takeB r v true) v == false)) = false := by rw [et, e1]; rfl
        have e4 : (!eqB (bm r) (bm r)) = false := by rw [es]; rfl
        repeat' (first
          | (refine s_is ?_; first
              | refine c_monot (id := 8) 7 mixed (by kernel_rfl) rfl ?_
              | (refine s_isagain ?_; first
                  | (exact c_again (r, i + 1) ⟨hr, by dsimp only; omega⟩ (by dsimp only; omega) ⟨rfl, rfl, rfl, rfl, rfl, rfl, trivial⟩ (fun w h => by dsimp only; rw [et] at h; exact h.mask [false, false, true, true, true, true])))
              | (refine s_isw ?_; first
                  | refine c_seq ?_
                  | refine c_block ?_
                  | ((refine c_region_keep [0, 1, 2, 3, 8, 9, 10, 11, 12, 13, 14, 15, 16, 17, 18] (by repeat (first | exact keep_nil | exact keep_end | apply keep_no rfl | apply keep_yes rfl rfl)) ?_; first | refine c_region ?_ | refine c_mixed mixed (by kernel_rfl) ?_))
                  | refine c_mixed mixed (by kernel_rfl) ?_
                  | refine c_skip ?_
                  | refine c_ret ?_
                  | refine c_exit ?_
                  | (refine s_iscond ?_; first
                      | (refine c_true rfl (by first | with_reducible rfl | ((with_reducible refine decide_eq_true ?_); first | with_reducible rfl | with_reducible assumption | omega) | (simp only [Bool.not_eq_true', decide_eq_false_iff_not]; omega) | (with_reducible assumption) | (rw [decide_eq_false] <;> (first | omega | with_reducible rfl)) | (rw [decide_eq_true] <;> (first | omega | with_reducible rfl)) | (simp; done) | (simp; omega)) ?_)
                      | (refine c_false rfl (by first | with_reducible rfl | ((with_reducible refine decide_eq_false ?_); first | with_reducible assumption | omega) | (simp only [Bool.not_eq_false', decide_eq_true_eq]; omega) | (with_reducible assumption) | (rw [decide_eq_false] <;> (first | omega | with_reducible rfl)) | (rw [decide_eq_true] <;> (first | omega | with_reducible rfl)) | (simp; done) | (simp; omega)) ?_)
                      | refine c_cond rfl (fun hc => ?_) (fun hc => ?_)
                      | refine c_condb rfl (fun hc => ?_) (fun hc => ?_)))
              | refine x_then ?_
              | refine x_then_ret ?_
              | refine x_then_exit ?_
              | refine x_block _ ?_
              | refine x_block_ret _ ?_
              | refine x_block_exit _ ?_
              | refine x_block_past (by decide) ?_
              | refine z_tailm ?_)
          | (refine z_isguard ?_; first
              | (refine z_want rfl rfl (by first | with_reducible rfl | ((with_reducible refine decide_eq_true ?_); first | with_reducible rfl | with_reducible assumption | omega) | ((with_reducible refine decide_eq_false ?_); first | with_reducible assumption | omega) | (simp only [Bool.not_eq_true', Bool.not_eq_false', decide_eq_false_iff_not, decide_eq_true_eq]; omega) | (with_reducible assumption) | (rw [decide_eq_false] <;> (first | omega | with_reducible rfl)) | (rw [decide_eq_true] <;> (first | omega | with_reducible rfl)) | (simp; done) | (simp; omega)) ?_)
              | (refine z_skip (by decide) rfl rfl (by first | with_reducible rfl | ((with_reducible refine decide_eq_true ?_); first | with_reducible rfl | with_reducible assumption | omega) | ((with_reducible refine decide_eq_false ?_); first | with_reducible assumption | omega) | (simp only [Bool.not_eq_true', Bool.not_eq_false', decide_eq_false_iff_not, decide_eq_true_eq]; omega) | (with_reducible assumption) | (rw [decide_eq_false] <;> (first | omega | with_reducible rfl)) | (rw [decide_eq_true] <;> (first | omega | with_reducible rfl)) | (simp; done) | (simp; omega)) ?_)
              | refine z_skipu (by decide) rfl rfl ?_
              | refine z_guard1 (by decide) rfl rfl (fun hc => ?_) (fun hc => ?_)
              | refine z_guard0 (by decide) rfl rfl (fun hc => ?_) (fun hc => ?_)
              | refine z_guardb (by decide) rfl rfl (fun hc => ?_) (fun hc => ?_))
          | (refine z_isnil ?_; first
              | refine z_list ?_
              | refine z_mixed ?_
              | refine z_mono0 ?_
              | refine z_mono1 (by decide) fun g => ?_
              | refine z_mono2 (by decide) (by decide) fun g g' => ?_
              | refine z_mixedx ?_
              | refine z_quiet ?_)
          | (refine z_isop ?_; first
              | refine o_boxa rfl rfl (by decide) fun g => ?_
              | refine o_alloca (e := 26) (vs := bm (fun _ => 0)) rfl (by kernel_rfl) (by decide) fun g => ?_
              | refine o_alloca (e := 24) (vs := bm (fun _ => 0)) rfl (by kernel_rfl) (by decide) fun g => ?_
              | refine o_alloca (e := 23) (vs := bm (fun _ => 0)) rfl (by kernel_rfl) (by decide) fun g => ?_
              | refine o_alloca (e := 49) (vs := rm (fun _ => false)) rfl (by kernel_rfl) (by decide) fun g => ?_
              | refine m_alloca (e := 26) (vs := bm (fun _ => 0)) (by kernel_rfl) ?_
              | (refine z_isbin ?_; first
                  | refine o_eqa cmp49 rfl rfl (rm_typed _) (rm_typed _) (by decide) ?_
                  | refine o_nea cmp24 rfl rfl (bm_typed _) (bm_typed _) (by decide) ?_
                  | (refine z_isb .add ?_; first
                      | refine o_add rfl rfl (by omega) (by omega) (by decide) ?_
                      | refine o_addw rfl rfl (by decide) ?_)
                  | (refine z_isb .sub ?_; first
                      | refine o_sub rfl rfl (by omega) (by omega) (by decide) ?_
                      | refine o_subw rfl rfl (by decide) ?_)
                  | (refine z_isb .mul ?_; first
                      | refine o_mul rfl rfl (by omega) (by omega) (by decide) ?_
                      | refine o_mulw rfl rfl (by decide) ?_)
                  | (refine z_isb .eql ?_; first
                      | refine o_eq rfl rfl (by decide) ?_
                      | refine o_beq tabOk rfl rfl rfl (by decide) ?_
                      | refine o_peq tabOk rfl rfl (by decide) ?_)
                  | (refine z_isb .neq ?_; first
                      | refine o_ne rfl rfl (by decide) ?_
                      | refine o_bne tabOk rfl rfl rfl (by decide) ?_
                      | refine o_pne tabOk rfl rfl (by decide) ?_)
                  | (refine z_isb .lss ?_; first
                      | refine o_lt rfl rfl (by decide) ?_)
                  | (refine z_isb .leq ?_; first
                      | refine o_le rfl rfl (by decide) ?_)
                  | (refine z_isb .gtr ?_; first
                      | refine o_gt rfl rfl (by decide) ?_)
                  | (refine z_isb .geq ?_; first
                      | refine o_ge rfl rfl (by decide) ?_)
                  | (refine z_isb .quo ?_; first
                      | refine o_quo rfl rfl (by omega) (by omega) (by omega) (by decide) ?_
                      | refine o_quo8 rfl rfl (by omega) (by omega) (by omega) (by decide) ?_
                      | refine o_quot rfl rfl (by omega) (by decide) ?_)
                  | (refine z_isb .rem ?_; first
                      | refine o_rem rfl rfl (by omega) (by omega) (by decide) ?_
                      | refine o_remk rfl rfl (by omega) (by omega) (by decide) ?_
                      | refine o_remt rfl rfl (by omega) (by decide) ?_)
                  | (refine z_isb .and ?_; first
                      | refine o_and rfl rfl (by decide) ?_)
                  | (refine z_isb .or ?_; first
                      | refine o_or rfl rfl (by decide) ?_)
                  | (refine z_isb .andNot ?_; first
                      | refine o_andNot rfl rfl (by decide) ?_)
                  | (refine z_isb .shl ?_; first
                      | refine o_shl rfl rfl (by omega) (by decide) ?_)
                  | (refine z_isb .shr ?_; first
                      | refine o_shr rfl rfl (by omega) (by decide) ?_))
              | (refine z_isload ?_; first
                  | (refine z_ld1 tabOk rfl rfl ?_; first
                      | ((refine z_ldi 0 rfl rfl ?_; refine o_load tabOk rfl rfl rfl 0 rfl (by first | exact hv | exact bm_at _ (by omega) | exact rm_at _ (by omega) | rfl) (by decide) ?_))
                      | ((refine z_ldi 1 rfl rfl ?_; refine o_load tabOk rfl rfl rfl 1 rfl (by first | exact hv | exact bm_at _ (by omega) | exact rm_at _ (by omega) | rfl) (by decide) ?_))
                      | ((refine z_ldi 2 rfl rfl ?_; refine o_load tabOk rfl rfl rfl 2 rfl (by first | exact hv | exact bm_at _ (by omega) | exact rm_at _ (by omega) | rfl) (by decide) ?_))
                      | ((refine z_ldi 3 rfl rfl ?_; refine o_load tabOk rfl rfl rfl 3 rfl (by first | exact hv | exact bm_at _ (by omega) | exact rm_at _ (by omega) | rfl) (by decide) ?_))
                      | ((refine z_ldi 4 rfl rfl ?_; refine o_load tabOk rfl rfl rfl 4 rfl (by first | exact hv | exact bm_at _ (by omega) | exact rm_at _ (by omega) | rfl) (by decide) ?_))
                      | ((refine z_ldi 5 rfl rfl ?_; refine o_load tabOk rfl rfl rfl 5 rfl (by first | exact hv | exact bm_at _ (by omega) | exact rm_at _ (by omega) | rfl) (by decide) ?_))
                      | ((refine z_ldi 6 rfl rfl ?_; refine o_load tabOk rfl rfl rfl 6 rfl (by first | exact hv | exact bm_at _ (by omega) | exact rm_at _ (by omega) | rfl) (by decide) ?_))
                      | refine o_loads tabOk (by first | exact own_rds 0 rfl | exact Rds.cons _ (Rds.cons _ (Rds.cons _ hrl)) | exact Rds.cons _ (Rds.cons _ (Rds.cons _ (Rds.cons _ hrl))) | exact Rds.cons _ (Rds.cons _ (Rds.cons _ (Rds.cons _ (Rds.cons _ hrl)))) | assumption) rfl rfl rfl (by first | exact hv | exact bm_at _ (by omega) | exact rm_at _ (by omega) | rfl) (by decide) ?_)
                  | (refine z_ldw tabOk rfl rfl ?_; first
                      | ((refine z_ldi 0 rfl rfl ?_; refine o_loadw tabOk rfl rfl rfl 0 rfl (by first | exact bm_len _ | exact rm_len _ | (simp only [bm_len, rm_len]) | rfl) (by decide) ?_))
                      | ((refine z_ldi 1 rfl rfl ?_; refine o_loadw tabOk rfl rfl rfl 1 rfl (by first | exact bm_len _ | exact rm_len _ | (simp only [bm_len, rm_len]) | rfl) (by decide) ?_))
                      | ((refine z_ldi 2 rfl rfl ?_; refine o_loadw tabOk rfl rfl rfl 2 rfl (by first | exact bm_len _ | exact rm_len _ | (simp only [bm_len, rm_len]) | rfl) (by decide) ?_))
                      | ((refine z_ldi 3 rfl rfl ?_; refine o_loadw tabOk rfl rfl rfl 3 rfl (by first | exact bm_len _ | exact rm_len _ | (simp only [bm_len, rm_len]) | rfl) (by decide) ?_))
                      | ((refine z_ldi 4 rfl rfl ?_; refine o_loadw tabOk rfl rfl rfl 4 rfl (by first | exact bm_len _ | exact rm_len _ | (simp only [bm_len, rm_len]) | rfl) (by decide) ?_))
                      | ((refine z_ldi 5 rfl rfl ?_; refine o_loadw tabOk rfl rfl rfl 5 rfl (by first | exact bm_len _ | exact rm_len _ | (simp only [bm_len, rm_len]) | rfl) (by decide) ?_))
                      | ((refine z_ldi 6 rfl rfl ?_; refine o_loadw tabOk rfl rfl rfl 6 rfl (by first | exact bm_len _ | exact rm_len _ | (simp only [bm_len, rm_len]) | rfl) (by decide) ?_))))
              | (refine z_isstore ?_; first
                  | (refine z_stw rfl ?_; first
                      | ((refine z_sti 0 rfl rfl ?_; refine o_storeb0 rfl tabOk rfl rfl rfl (by first | exact bm_len _ | exact rm_len _ | (simp only [bm_len, rm_len]) | rfl) (by first | exact bm_one _ | exact rm_one _ | rfl) (by first | exact bm_len _ | exact rm_len _ | (simp only [bm_len, rm_len]) | rfl) ?_))
                      | ((refine z_sti 1 rfl rfl ?_; refine o_storeb1 rfl tabOk rfl rfl rfl (by first | exact bm_len _ | exact rm_len _ | (simp only [bm_len, rm_len]) | rfl) (by first | exact bm_one _ | exact rm_one _ | rfl) (by first | exact bm_len _ | exact rm_len _ | (simp only [bm_len, rm_len]) | rfl) ?_))
                      | ((refine z_sti 2 rfl rfl ?_; refine o_storeb2 rfl tabOk rfl rfl rfl (by first | exact bm_len _ | exact rm_len _ | (simp only [bm_len, rm_len]) | rfl) (by first | exact bm_one _ | exact rm_one _ | rfl) (by first | exact bm_len _ | exact rm_len _ | (simp only [bm_len, rm_len]) | rfl) ?_))
                      | ((refine z_sti 3 rfl rfl ?_; refine o_storeb3 rfl tabOk rfl rfl rfl (by first | exact bm_len _ | exact rm_len _ | (simp only [bm_len, rm_len]) | rfl) (by first | exact bm_one _ | exact rm_one _ | rfl) (by first | exact bm_len _ | exact rm_len _ | (simp only [bm_len, rm_len]) | rfl) ?_))
                      | ((refine z_sti 4 rfl rfl ?_; refine o_storeb4 rfl tabOk rfl rfl rfl (by first | exact bm_len _ | exact rm_len _ | (simp only [bm_len, rm_len]) | rfl) (by first | exact bm_one _ | exact rm_one _ | rfl) (by first | exact bm_len _ | exact rm_len _ | (simp only [bm_len, rm_len]) | rfl) ?_))
                      | ((refine z_sti 5 rfl rfl ?_; refine o_storeb5 rfl tabOk rfl rfl rfl (by first | exact bm_len _ | exact rm_len _ | (simp only [bm_len, rm_len]) | rfl) (by first | exact bm_one _ | exact rm_one _ | rfl) (by first | exact bm_len _ | exact rm_len _ | (simp only [bm_len, rm_len]) | rfl) ?_))
                      | ((refine z_sti 6 rfl rfl ?_; refine o_storeb6 rfl tabOk rfl rfl rfl (by first | exact bm_len _ | exact rm_len _ | (simp only [bm_len, rm_len]) | rfl) (by first | exact bm_one _ | exact rm_one _ | rfl) (by first | exact bm_len _ | exact rm_len _ | (simp only [bm_len, rm_len]) | rfl) ?_)))
                  | (refine z_st1 rfl rfl ?_; first
                      | refine o_store rfl tabOk rfl rfl rfl rfl rfl (by first | exact hv | exact bm_at _ (by omega) | exact rm_at _ (by omega) | rfl) (by first | exact bm_set _ _ _ | exact rm_set _ _ _ | rfl) ?_
                      | ((refine z_sti 1 rfl rfl ?_; refine o_store1 rfl tabOk rfl rfl rfl rfl rfl (by first | exact hv | exact bm_at _ (by omega) | exact rm_at _ (by omega) | rfl) (by first | exact bm_set _ _ _ | exact rm_set _ _ _ | rfl) ?_))
                      | ((refine z_sti 2 rfl rfl ?_; refine o_store2 rfl tabOk rfl rfl rfl rfl rfl (by first | exact hv | exact bm_at _ (by omega) | exact rm_at _ (by omega) | rfl) (by first | exact bm_set _ _ _ | exact rm_set _ _ _ | rfl) ?_))
                      | ((refine z_sti 3 rfl rfl ?_; refine o_store3 rfl tabOk rfl rfl rfl rfl rfl (by first | exact hv | exact bm_at _ (by omega) | exact rm_at _ (by omega) | rfl) (by first | exact bm_set _ _ _ | exact rm_set _ _ _ | rfl) ?_))
                      | ((refine z_sti 4 rfl rfl ?_; refine o_store4 rfl tabOk rfl rfl rfl rfl rfl (by first | exact hv | exact bm_at _ (by omega) | exact rm_at _ (by omega) | rfl) (by first | exact bm_set _ _ _ | exact rm_set _ _ _ | rfl) ?_))
                      | ((refine z_sti 5 rfl rfl ?_; refine o_store5 rfl tabOk rfl rfl rfl rfl rfl (by first | exact hv | exact bm_at _ (by omega) | exact rm_at _ (by omega) | rfl) (by first | exact bm_set _ _ _ | exact rm_set _ _ _ | rfl) ?_))
                      | ((refine z_sti 6 rfl rfl ?_; refine o_store6 rfl tabOk rfl rfl rfl rfl rfl (by first | exact hv | exact bm_at _ (by omega) | exact rm_at _ (by omega) | rfl) (by first | exact bm_set _ _ _ | exact rm_set _ _ _ | rfl) ?_))))
              | (refine z_isfield ?_; first
                  | refine o_fv tabOk rfl rfl rfl rfl rfl (by first | exact hv | exact bm_at _ (by omega) | exact rm_at _ (by omega) | rfl) (by decide) ?_
                  | refine o_fvw tabOk rfl rfl rfl rfl rfl (by first | exact bm_len _ | exact rm_len _ | (simp only [bm_len, rm_len]) | rfl) (by decide) ?_)
              | (refine z_isindex ?_; first
                  | refine o_ixv tabOk rfl rfl rfl rfl rfl (by omega) (by omega) (by first | exact hv | exact bm_at _ (by omega) | exact rm_at _ (by omega) | rfl) (by decide) ?_)
              | (refine z_ismakes ?_; first
                  | refine o_make1 rfl tabOk zeroOk rfl rfl rfl rfl rfl (by decide) fun g => ?_)
              | (refine z_iscall ?_; first
                  | ((refine z_iscallf 44 ?_; refine o_fn rfl Try.func44 rfl rfl rfl (in_fn _) (by decide) ?_))
                  | ((refine z_iscallf 16 ?_; refine o_fn rfl Try.func16 rfl rfl rfl (has_fn _ (by assumption) _) (by decide) ?_))
                  | ((refine z_iscallf 17 ?_; refine o_fn rfl Try.func17 rfl rfl rfl (take_fn _ (by assumption) _) (by decide) ?_))
                  | ((refine z_iscallf 25 ?_; refine o_fn rfl Try.func25 rfl rfl rfl (free_fn _ (by assumption) _) (by decide) ?_))
                  | ((refine z_iscallf 12 ?_; refine o_fn rfl Try.func12 rfl rfl rfl (of_fn _) (by decide) ?_))
                  | ((refine z_iscallf 24 ?_; refine o_fn rfl Try.func24 rfl rfl rfl (block_fn _) (by decide) ?_))
                  | ((refine z_iscallf 14 ?_; refine o_fn rfl Try.func14 rfl rfl rfl (count_fn _ (by assumption) _ _) (by decide) ?_))
                  | ((refine z_iscallf 18 ?_; refine o_fn rfl Try.func18 rfl rfl rfl (awake24) (by decide) ?_))
                  | ((refine z_iscallf 23 ?_; refine o_fn rfl Try.func23 rfl rfl rfl (rof_fn _ (by assumption)) (by decide) ?_))
                  | ((refine z_iscallf 27 ?_; refine o_fn rfl Try.func27 rfl rfl rfl (rcount_is _ _ _) (by decide) ?_)))
              | (refine z_ispick ?_; first
                  | (refine o_pick1 rfl (by first | with_reducible rfl | ((with_reducible refine decide_eq_true ?_); first | with_reducible rfl | with_reducible assumption | omega) | (simp only [Bool.not_eq_true', decide_eq_false_iff_not]; omega) | (with_reducible assumption) | (rw [decide_eq_false] <;> (first | omega | with_reducible rfl)) | (rw [decide_eq_true] <;> (first | omega | with_reducible rfl)) | (simp; done) | (simp; omega)) rfl (by decide) ?_)
                  | (refine o_pick0 rfl (by first | with_reducible rfl | ((with_reducible refine decide_eq_false ?_); first | with_reducible assumption | omega) | (simp only [Bool.not_eq_false', decide_eq_true_eq]; omega) | (with_reducible assumption) | (rw [decide_eq_false] <;> (first | omega | with_reducible rfl)) | (rw [decide_eq_true] <;> (first | omega | with_reducible rfl)) | (simp; done) | (simp; omega)) rfl (by decide) ?_))
              | (refine z_isix ?_; first
                  | refine o_index0 tabOk rfl rfl rfl rfl (by omega) (by omega) (by decide) ?_
                  | refine o_index1 tabOk rfl rfl rfl rfl (by omega) (by omega) (by decide) ?_
                  | refine o_indexsk tabOk rfl rfl rfl rfl (by omega) (by omega) (by decide) ?_
                  | refine o_indexs1 tabOk (by first | assumption | exact hne (by omega) | assumption) rfl rfl rfl rfl (by omega) (by omega) (by decide) ?_)
              | (refine z_isslice ?_; first
                  | refine o_slice tabOk rfl rfl rfl rfl rfl (by omega) (by omega) (by omega) (by decide) ?_
                  | refine o_slicel tabOk rfl rfl rfl rfl (by omega) (by omega) (by omega) (by decide) ?_
                  | refine o_sliceh tabOk rfl rfl rfl rfl (by omega) (by omega) (by decide) ?_
                  | refine o_slp tabOk rfl rfl rfl rfl rfl (by omega) (by omega) (by omega) (by omega) (by decide) ?_
                  | refine o_slpl tabOk rfl rfl rfl rfl (by omega) (by omega) (by decide) ?_
                  | refine o_slp0 tabOk rfl rfl rfl rfl (by decide) ?_)
              | (refine z_isbi ?_; first
                  | refine o_len tabOk rfl rfl (by decide) ?_
                  | refine o_min rfl rfl (by decide) ?_
                  | refine o_max rfl rfl (by decide) ?_
                  | refine o_append rfl tabOk zeroOk rfl rfl rfl rfl rfl rfl (by first | exact own_rds 0 rfl | exact Rds.cons _ (Rds.cons _ (Rds.cons _ hrl)) | exact Rds.cons _ (Rds.cons _ (Rds.cons _ (Rds.cons _ hrl))) | exact Rds.cons _ (Rds.cons _ (Rds.cons _ (Rds.cons _ (Rds.cons _ hrl)))) | assumption) (by first | rfl | simp) (by first | rfl | simp) (by omega) (by omega) (by decide) fun A' c' => ?_
                  | (refine z_front rfl 1 rfl ?_; refine o_append rfl tabOk zeroOk rfl rfl rfl rfl rfl rfl (by first | exact own_rds 0 rfl | exact Rds.cons _ (Rds.cons _ (Rds.cons _ hrl)) | exact Rds.cons _ (Rds.cons _ (Rds.cons _ (Rds.cons _ hrl))) | exact Rds.cons _ (Rds.cons _ (Rds.cons _ (Rds.cons _ (Rds.cons _ hrl)))) | assumption) (by first | rfl | simp) (by first | rfl | simp) (by omega) (by omega) (by decide) fun A' c' => ?_)
                  | (refine z_front rfl 2 rfl ?_; refine o_append rfl tabOk zeroOk rfl rfl rfl rfl rfl rfl (by first | exact own_rds 0 rfl | exact Rds.cons _ (Rds.cons _ (Rds.cons _ hrl)) | exact Rds.cons _ (Rds.cons _ (Rds.cons _ (Rds.cons _ hrl))) | exact Rds.cons _ (Rds.cons _ (Rds.cons _ (Rds.cons _ (Rds.cons _ hrl)))) | assumption) (by first | rfl | simp) (by first | rfl | simp) (by omega) (by omega) (by decide) fun A' c' => ?_)
                  | (refine z_front rfl 3 rfl ?_; refine o_append rfl tabOk zeroOk rfl rfl rfl rfl rfl rfl (by first | exact own_rds 0 rfl | exact Rds.cons _ (Rds.cons _ (Rds.cons _ hrl)) | exact Rds.cons _ (Rds.cons _ (Rds.cons _ (Rds.cons _ hrl))) | exact Rds.cons _ (Rds.cons _ (Rds.cons _ (Rds.cons _ (Rds.cons _ hrl)))) | assumption) (by first | rfl | simp) (by first | rfl | simp) (by omega) (by omega) (by decide) fun A' c' => ?_)
                  | (refine z_front rfl 4 rfl ?_; refine o_append rfl tabOk zeroOk rfl rfl rfl rfl rfl rfl (by first | exact own_rds 0 rfl | exact Rds.cons _ (Rds.cons _ (Rds.cons _ hrl)) | exact Rds.cons _ (Rds.cons _ (Rds.cons _ (Rds.cons _ hrl))) | exact Rds.cons _ (Rds.cons _ (Rds.cons _ (Rds.cons _ (Rds.cons _ hrl)))) | assumption) (by first | rfl | simp) (by first | rfl | simp) (by omega) (by omega) (by decide) fun A' c' => ?_)
                  | (refine z_front rfl 5 rfl ?_; refine o_append rfl tabOk zeroOk rfl rfl rfl rfl rfl rfl (by first | exact own_rds 0 rfl | exact Rds.cons _ (Rds.cons _ (Rds.cons _ hrl)) | exact Rds.cons _ (Rds.cons _ (Rds.cons _ (Rds.cons _ hrl))) | exact Rds.cons _ (Rds.cons _ (Rds.cons _ (Rds.cons _ (Rds.cons _ hrl)))) | assumption) (by first | rfl | simp) (by first | rfl | simp) (by omega) (by omega) (by decide) fun A' c' => ?_))
              | refine o_move rfl (by decide) ?_
              | refine o_assign rfl (by decide) ?_
              | refine o_nil rfl (by decide) ?_
              | refine o_extract rfl rfl (by decide) ?_
              | refine o_not rfl (by decide) ?_
              | refine o_field0 tabOk rfl rfl rfl rfl rfl (by decide) ?_
              | refine o_field tabOk rfl rfl rfl rfl rfl (by decide) ?_
              | refine o_conv tabOk rfl rfl rfl (by decide) ?_))
  · skip
    repeat' (first
      | (refine s_is ?_; first
          | refine c_monot (id := 8) 7 mixed (by kernel_rfl) rfl ?_
          | (refine s_isw ?_; first
              | (refine s_isloop ?_; first
                  | (refine c_loop (X := Nat) (fun j => j ≤ 512) (fun j => [(2, .int .i64 f), (3, .int .i64 t), (10, .pointer (some ⟨g2, 0, none⟩)), (11, .pointer (some ⟨g, 0, none⟩)), (15, .int .i64 j)]) (fun j => [cells g 49 (rm (tb r)), cells g2 26 (bm r), cells g1 23 (bm (byF xs)), old W]) (fun j => 512 - j) 0 (Nat.zero_le _) ⟨rfl, rfl, rfl, rfl, rfl, trivial⟩ (fun w h => h) (fun j hj => hold ?_)))
              | refine c_seq ?_
              | refine c_block ?_
              | ((refine c_region_keep [0, 1, 2, 3, 8, 9, 10, 11, 12, 13, 14, 15, 16, 17, 18] (by repeat (first | exact keep_nil | exact keep_end | apply keep_no rfl | apply keep_yes rfl rfl)) ?_; first | refine c_region ?_ | refine c_mixed mixed (by kernel_rfl) ?_))
              | refine c_mixed mixed (by kernel_rfl) ?_
              | refine c_skip ?_
              | refine c_ret ?_
              | refine c_exit ?_
              | (refine s_iscond ?_; first
                  | (refine c_true rfl (by first | with_reducible rfl | ((with_reducible refine decide_eq_true ?_); first | with_reducible rfl | with_reducible assumption | omega) | (simp only [Bool.not_eq_true', decide_eq_false_iff_not]; omega) | (with_reducible assumption) | (rw [decide_eq_false] <;> (first | omega | with_reducible rfl)) | (rw [decide_eq_true] <;> (first | omega | with_reducible rfl)) | (simp; done) | (simp; omega)) ?_)
                  | (refine c_false rfl (by first | with_reducible rfl | ((with_reducible refine decide_eq_false ?_); first | with_reducible assumption | omega) | (simp only [Bool.not_eq_false', decide_eq_true_eq]; omega) | (with_reducible assumption) | (rw [decide_eq_false] <;> (first | omega | with_reducible rfl)) | (rw [decide_eq_true] <;> (first | omega | with_reducible rfl)) | (simp; done) | (simp; omega)) ?_)
                  | refine c_cond rfl (fun hc => ?_) (fun hc => ?_)
                  | refine c_condb rfl (fun hc => ?_) (fun hc => ?_)))
          | refine x_then ?_
          | refine x_then_ret ?_
          | refine x_then_exit ?_
          | refine x_block _ ?_
          | refine x_block_ret _ ?_
          | refine x_block_exit _ ?_
          | refine x_block_past (by decide) ?_
          | refine z_tailm ?_)
      | (refine z_isguard ?_; first
          | (refine z_want rfl rfl (by first | with_reducible rfl | ((with_reducible refine decide_eq_true ?_); first | with_reducible rfl | with_reducible assumption | omega) | ((with_reducible refine decide_eq_false ?_); first | with_reducible assumption | omega) | (simp only [Bool.not_eq_true', Bool.not_eq_false', decide_eq_false_iff_not, decide_eq_true_eq]; omega) | (with_reducible assumption) | (rw [decide_eq_false] <;> (first | omega | with_reducible rfl)) | (rw [decide_eq_true] <;> (first | omega | with_reducible rfl)) | (simp; done) | (simp; omega)) ?_)
          | (refine z_skip (by decide) rfl rfl (by first | with_reducible rfl | ((with_reducible refine decide_eq_true ?_); first | with_reducible rfl | with_reducible assumption | omega) | ((with_reducible refine decide_eq_false ?_); first | with_reducible assumption | omega) | (simp only [Bool.not_eq_true', Bool.not_eq_false', decide_eq_false_iff_not, decide_eq_true_eq]; omega) | (with_reducible assumption) | (rw [decide_eq_false] <;> (first | omega | with_reducible rfl)) | (rw [decide_eq_true] <;> (first | omega | with_reducible rfl)) | (simp; done) | (simp; omega)) ?_)
          | refine z_skipu (by decide) rfl rfl ?_
          | refine z_guard1 (by decide) rfl rfl (fun hc => ?_) (fun hc => ?_)
          | refine z_guard0 (by decide) rfl rfl (fun hc => ?_) (fun hc => ?_)
          | refine z_guardb (by decide) rfl rfl (fun hc => ?_) (fun hc => ?_))
      | (refine z_isnil ?_; first
          | refine z_list ?_
          | refine z_mixed ?_
          | refine z_mono0 ?_
          | refine z_mono1 (by decide) fun g => ?_
          | refine z_mono2 (by decide) (by decide) fun g g' => ?_
          | refine z_mixedx ?_
          | refine z_quiet ?_)
      | (refine z_isop ?_; first
          | refine o_boxa rfl rfl (by decide) fun g => ?_
          | refine o_alloca (e := 26) (vs := bm (fun _ => 0)) rfl (by kernel_rfl) (by decide) fun g => ?_
          | refine o_alloca (e := 24) (vs := bm (fun _ => 0)) rfl (by kernel_rfl) (by decide) fun g => ?_
          | refine o_alloca (e := 23) (vs := bm (fun _ => 0)) rfl (by kernel_rfl) (by decide) fun g => ?_
          | refine o_alloca (e := 49) (vs := rm (fun _ => false)) rfl (by kernel_rfl) (by decide) fun g => ?_
          | refine m_alloca (e := 26) (vs := bm (fun _ => 0)) (by kernel_rfl) ?_
          | (refine z_isbin ?_; first
              | refine o_eqa cmp49 rfl rfl (rm_typed _) (rm_typed _) (by decide) ?_
              | refine o_nea cmp24 rfl rfl (bm_typed _) (bm_typed _) (by decide) ?_
              | (refine z_isb .add ?_; first
                  | refine o_add rfl rfl (by omega) (by omega) (by decide) ?_
                  | refine o_addw rfl rfl (by decide) ?_)
              | (refine z_isb .sub ?_; first
                  | refine o_sub rfl rfl (by omega) (by omega) (by decide) ?_
                  | refine o_subw rfl rfl (by decide) ?_)
              | (refine z_isb .mul ?_; first
                  | refine o_mul rfl rfl (by omega) (by omega) (by decide) ?_
                  | refine o_mulw rfl rfl (by decide) ?_)
              | (refine z_isb .eql ?_; first
                  | refine o_eq rfl rfl (by decide) ?_
                  | refine o_beq tabOk rfl rfl rfl (by decide) ?_
                  | refine o_peq tabOk rfl rfl (by decide) ?_)
              | (refine z_isb .neq ?_; first
                  | refine o_ne rfl rfl (by decide) ?_
                  | refine o_bne tabOk rfl rfl rfl (by decide) ?_
                  | refine o_pne tabOk rfl rfl (by decide) ?_)
              | (refine z_isb .lss ?_; first
                  | refine o_lt rfl rfl (by decide) ?_)
              | (refine z_isb .leq ?_; first
                  | refine o_le rfl rfl (by decide) ?_)
              | (refine z_isb .gtr ?_; first
                  | refine o_gt rfl rfl (by decide) ?_)
              | (refine z_isb .geq ?_; first
                  | refine o_ge rfl rfl (by decide) ?_)
              | (refine z_isb .quo ?_; first
                  | refine o_quo rfl rfl (by omega) (by omega) (by omega) (by decide) ?_
                  | refine o_quo8 rfl rfl (by omega) (by omega) (by omega) (by decide) ?_
                  | refine o_quot rfl rfl (by omega) (by decide) ?_)
              | (refine z_isb .rem ?_; first
                  | refine o_rem rfl rfl (by omega) (by omega) (by decide) ?_
                  | refine o_remk rfl rfl (by omega) (by omega) (by decide) ?_
                  | refine o_remt rfl rfl (by omega) (by decide) ?_)
              | (refine z_isb .and ?_; first
                  | refine o_and rfl rfl (by decide) ?_)
              | (refine z_isb .or ?_; first
                  | refine o_or rfl rfl (by decide) ?_)
              | (refine z_isb .andNot ?_; first
                  | refine o_andNot rfl rfl (by decide) ?_)
              | (refine z_isb .shl ?_; first
                  | refine o_shl rfl rfl (by omega) (by decide) ?_)
              | (refine z_isb .shr ?_; first
                  | refine o_shr rfl rfl (by omega) (by decide) ?_))
          | (refine z_isload ?_; first
              | (refine z_ld1 tabOk rfl rfl ?_; first
                  | ((refine z_ldi 0 rfl rfl ?_; refine o_load tabOk rfl rfl rfl 0 rfl (by first | exact hv | exact bm_at _ (by omega) | exact rm_at _ (by omega) | rfl) (by decide) ?_))
                  | ((refine z_ldi 1 rfl rfl ?_; refine o_load tabOk rfl rfl rfl 1 rfl (by first | exact hv | exact bm_at _ (by omega) | exact rm_at _ (by omega) | rfl) (by decide) ?_))
                  | ((refine z_ldi 2 rfl rfl ?_; refine o_load tabOk rfl rfl rfl 2 rfl (by first | exact hv | exact bm_at _ (by omega) | exact rm_at _ (by omega) | rfl) (by decide) ?_))
                  | ((refine z_ldi 3 rfl rfl ?_; refine o_load tabOk rfl rfl rfl 3 rfl (by first | exact hv | exact bm_at _ (by omega) | exact rm_at _ (by omega) | rfl) (by decide) ?_))
                  | ((refine z_ldi 4 rfl rfl ?_; refine o_load tabOk rfl rfl rfl 4 rfl (by first | exact hv | exact bm_at _ (by omega) | exact rm_at _ (by omega) | rfl) (by decide) ?_))
                  | ((refine z_ldi 5 rfl rfl ?_; refine o_load tabOk rfl rfl rfl 5 rfl (by first | exact hv | exact bm_at _ (by omega) | exact rm_at _ (by omega) | rfl) (by decide) ?_))
                  | ((refine z_ldi 6 rfl rfl ?_; refine o_load tabOk rfl rfl rfl 6 rfl (by first | exact hv | exact bm_at _ (by omega) | exact rm_at _ (by omega) | rfl) (by decide) ?_))
                  | refine o_loads tabOk (by first | exact own_rds 0 rfl | exact Rds.cons _ (Rds.cons _ (Rds.cons _ hrl)) | exact Rds.cons _ (Rds.cons _ (Rds.cons _ (Rds.cons _ hrl))) | exact Rds.cons _ (Rds.cons _ (Rds.cons _ (Rds.cons _ (Rds.cons _ hrl)))) | assumption) rfl rfl rfl (by first | exact hv | exact bm_at _ (by omega) | exact rm_at _ (by omega) | rfl) (by decide) ?_)
              | (refine z_ldw tabOk rfl rfl ?_; first
                  | ((refine z_ldi 0 rfl rfl ?_; refine o_loadw tabOk rfl rfl rfl 0 rfl (by first | exact bm_len _ | exact rm_len _ | (simp only [bm_len, rm_len]) | rfl) (by decide) ?_))
                  | ((refine z_ldi 1 rfl rfl ?_; refine o_loadw tabOk rfl rfl rfl 1 rfl (by first | exact bm_len _ | exact rm_len _ | (simp only [bm_len, rm_len]) | rfl) (by decide) ?_))
                  | ((refine z_ldi 2 rfl rfl ?_; refine o_loadw tabOk rfl rfl rfl 2 rfl (by first | exact bm_len _ | exact rm_len _ | (simp only [bm_len, rm_len]) | rfl) (by decide) ?_))
                  | ((refine z_ldi 3 rfl rfl ?_; refine o_loadw tabOk rfl rfl rfl 3 rfl (by first | exact bm_len _ | exact rm_len _ | (simp only [bm_len, rm_len]) | rfl) (by decide) ?_))
                  | ((refine z_ldi 4 rfl rfl ?_; refine o_loadw tabOk rfl rfl rfl 4 rfl (by first | exact bm_len _ | exact rm_len _ | (simp only [bm_len, rm_len]) | rfl) (by decide) ?_))
                  | ((refine z_ldi 5 rfl rfl ?_; refine o_loadw tabOk rfl rfl rfl 5 rfl (by first | exact bm_len _ | exact rm_len _ | (simp only [bm_len, rm_len]) | rfl) (by decide) ?_))
                  | ((refine z_ldi 6 rfl rfl ?_; refine o_loadw tabOk rfl rfl rfl 6 rfl (by first | exact bm_len _ | exact rm_len _ | (simp only [bm_len, rm_len]) | rfl) (by decide) ?_))))
          | (refine z_isstore ?_; first
              | (refine z_stw rfl ?_; first
                  | ((refine z_sti 0 rfl rfl ?_; refine o_storeb0 rfl tabOk rfl rfl rfl (by first | exact bm_len _ | exact rm_len _ | (simp only [bm_len, rm_len]) | rfl) (by first | exact bm_one _ | exact rm_one _ | rfl) (by first | exact bm_len _ | exact rm_len _ | (simp only [bm_len, rm_len]) | rfl) ?_))
                  | ((refine z_sti 1 rfl rfl ?_; refine o_storeb1 rfl tabOk rfl rfl rfl (by first | exact bm_len _ | exact rm_len _ | (simp only [bm_len, rm_len]) | rfl) (by first | exact bm_one _ | exact rm_one _ | rfl) (by first | exact bm_len _ | exact rm_len _ | (simp only [bm_len, rm_len]) | rfl) ?_))
                  | ((refine z_sti 2 rfl rfl ?_; refine o_storeb2 rfl tabOk rfl rfl rfl (by first | exact bm_len _ | exact rm_len _ | (simp only [bm_len, rm_len]) | rfl) (by first | exact bm_one _ | exact rm_one _ | rfl) (by first | exact bm_len _ | exact rm_len _ | (simp only [bm_len, rm_len]) | rfl) ?_))
                  | ((refine z_sti 3 rfl rfl ?_; refine o_storeb3 rfl tabOk rfl rfl rfl (by first | exact bm_len _ | exact rm_len _ | (simp only [bm_len, rm_len]) | rfl) (by first | exact bm_one _ | exact rm_one _ | rfl) (by first | exact bm_len _ | exact rm_len _ | (simp only [bm_len, rm_len]) | rfl) ?_))
                  | ((refine z_sti 4 rfl rfl ?_; refine o_storeb4 rfl tabOk rfl rfl rfl (by first | exact bm_len _ | exact rm_len _ | (simp only [bm_len, rm_len]) | rfl) (by first | exact bm_one _ | exact rm_one _ | rfl) (by first | exact bm_len _ | exact rm_len _ | (simp only [bm_len, rm_len]) | rfl) ?_))
                  | ((refine z_sti 5 rfl rfl ?_; refine o_storeb5 rfl tabOk rfl rfl rfl (by first | exact bm_len _ | exact rm_len _ | (simp only [bm_len, rm_len]) | rfl) (by first | exact bm_one _ | exact rm_one _ | rfl) (by first | exact bm_len _ | exact rm_len _ | (simp only [bm_len, rm_len]) | rfl) ?_))
                  | ((refine z_sti 6 rfl rfl ?_; refine o_storeb6 rfl tabOk rfl rfl rfl (by first | exact bm_len _ | exact rm_len _ | (simp only [bm_len, rm_len]) | rfl) (by first | exact bm_one _ | exact rm_one _ | rfl) (by first | exact bm_len _ | exact rm_len _ | (simp only [bm_len, rm_len]) | rfl) ?_)))
              | (refine z_st1 rfl rfl ?_; first
                  | refine o_store rfl tabOk rfl rfl rfl rfl rfl (by first | exact hv | exact bm_at _ (by omega) | exact rm_at _ (by omega) | rfl) (by first | exact bm_set _ _ _ | exact rm_set _ _ _ | rfl) ?_
                  | ((refine z_sti 1 rfl rfl ?_; refine o_store1 rfl tabOk rfl rfl rfl rfl rfl (by first | exact hv | exact bm_at _ (by omega) | exact rm_at _ (by omega) | rfl) (by first | exact bm_set _ _ _ | exact rm_set _ _ _ | rfl) ?_))
                  | ((refine z_sti 2 rfl rfl ?_; refine o_store2 rfl tabOk rfl rfl rfl rfl rfl (by first | exact hv | exact bm_at _ (by omega) | exact rm_at _ (by omega) | rfl) (by first | exact bm_set _ _ _ | exact rm_set _ _ _ | rfl) ?_))
                  | ((refine z_sti 3 rfl rfl ?_; refine o_store3 rfl tabOk rfl rfl rfl rfl rfl (by first | exact hv | exact bm_at _ (by omega) | exact rm_at _ (by omega) | rfl) (by first | exact bm_set _ _ _ | exact rm_set _ _ _ | rfl) ?_))
                  | ((refine z_sti 4 rfl rfl ?_; refine o_store4 rfl tabOk rfl rfl rfl rfl rfl (by first | exact hv | exact bm_at _ (by omega) | exact rm_at _ (by omega) | rfl) (by first | exact bm_set _ _ _ | exact rm_set _ _ _ | rfl) ?_))
                  | ((refine z_sti 5 rfl rfl ?_; refine o_store5 rfl tabOk rfl rfl rfl rfl rfl (by first | exact hv | exact bm_at _ (by omega) | exact rm_at _ (by omega) | rfl) (by first | exact bm_set _ _ _ | exact rm_set _ _ _ | rfl) ?_))
                  | ((refine z_sti 6 rfl rfl ?_; refine o_store6 rfl tabOk rfl rfl rfl rfl rfl (by first | exact hv | exact bm_at _ (by omega) | exact rm_at _ (by omega) | rfl) (by first | exact bm_set _ _ _ | exact rm_set _ _ _ | rfl) ?_))))
          | (refine z_isfield ?_; first
              | refine o_fv tabOk rfl rfl rfl rfl rfl (by first | exact hv | exact bm_at _ (by omega) | exact rm_at _ (by omega) | rfl) (by decide) ?_
              | refine o_fvw tabOk rfl rfl rfl rfl rfl (by first | exact bm_len _ | exact rm_len _ | (simp only [bm_len, rm_len]) | rfl) (by decide) ?_)
          | (refine z_isindex ?_; first
              | refine o_ixv tabOk rfl rfl rfl rfl rfl (by omega) (by omega) (by first | exact hv | exact bm_at _ (by omega) | exact rm_at _ (by omega) | rfl) (by decide) ?_)
          | (refine z_ismakes ?_; first
              | refine o_make1 rfl tabOk zeroOk rfl rfl rfl rfl rfl (by decide) fun g => ?_)
          | (refine z_iscall ?_; first
              | ((refine z_iscallf 44 ?_; refine o_fn rfl Try.func44 rfl rfl rfl (in_fn _) (by decide) ?_))
              | ((refine z_iscallf 16 ?_; refine o_fn rfl Try.func16 rfl rfl rfl (has_fn _ (by assumption) _) (by decide) ?_))
              | ((refine z_iscallf 17 ?_; refine o_fn rfl Try.func17 rfl rfl rfl (take_fn _ (by assumption) _) (by decide) ?_))
              | ((refine z_iscallf 25 ?_; refine o_fn rfl Try.func25 rfl rfl rfl (free_fn _ (by assumption) _) (by decide) ?_))
              | ((refine z_iscallf 12 ?_; refine o_fn rfl Try.func12 rfl rfl rfl (of_fn _) (by decide) ?_))
              | ((refine z_iscallf 24 ?_; refine o_fn rfl Try.func24 rfl rfl rfl (block_fn _) (by decide) ?_))
              | ((refine z_iscallf 14 ?_; refine o_fn rfl Try.func14 rfl rfl rfl (count_fn _ (by assumption) _ _) (by decide) ?_))
              | ((refine z_iscallf 18 ?_; refine o_fn rfl Try.func18 rfl rfl rfl (awake24) (by decide) ?_))
              | ((refine z_iscallf 23 ?_; refine o_fn rfl Try.func23 rfl rfl rfl (rof_fn _ (by assumption)) (by decide) ?_))
              | ((refine z_iscallf 27 ?_; refine o_fn rfl Try.func27 rfl rfl rfl (rcount_is _ _ _) (by decide) ?_)))
          | (refine z_ispick ?_; first
              | (refine o_pick1 rfl (by first | with_reducible rfl | ((with_reducible refine decide_eq_true ?_); first | with_reducible rfl | with_reducible assumption | omega) | (simp only [Bool.not_eq_true', decide_eq_false_iff_not]; omega) | (with_reducible assumption) | (rw [decide_eq_false] <;> (first | omega | with_reducible rfl)) | (rw [decide_eq_true] <;> (first | omega | with_reducible rfl)) | (simp; done) | (simp; omega)) rfl (by decide) ?_)
              | (refine o_pick0 rfl (by first | with_reducible rfl | ((with_reducible refine decide_eq_false ?_); first | with_reducible assumption | omega) | (simp only [Bool.not_eq_false', decide_eq_true_eq]; omega) | (with_reducible assumption) | (rw [decide_eq_false] <;> (first | omega | with_reducible rfl)) | (rw [decide_eq_true] <;> (first | omega | with_reducible rfl)) | (simp; done) | (simp; omega)) rfl (by decide) ?_))
          | (refine z_isix ?_; first
              | refine o_index0 tabOk rfl rfl rfl rfl (by omega) (by omega) (by decide) ?_
              | refine o_index1 tabOk rfl rfl rfl rfl (by omega) (by omega) (by decide) ?_
              | refine o_indexsk tabOk rfl rfl rfl rfl (by omega) (by omega) (by decide) ?_
              | refine o_indexs1 tabOk (by first | assumption | exact hne (by omega) | assumption) rfl rfl rfl rfl (by omega) (by omega) (by decide) ?_)
          | (refine z_isslice ?_; first
              | refine o_slice tabOk rfl rfl rfl rfl rfl (by omega) (by omega) (by omega) (by decide) ?_
              | refine o_slicel tabOk rfl rfl rfl rfl (by omega) (by omega) (by omega) (by decide) ?_
              | refine o_sliceh tabOk rfl rfl rfl rfl (by omega) (by omega) (by decide) ?_
              | refine o_slp tabOk rfl rfl rfl rfl rfl (by omega) (by omega) (by omega) (by omega) (by decide) ?_
              | refine o_slpl tabOk rfl rfl rfl rfl (by omega) (by omega) (by decide) ?_
              | refine o_slp0 tabOk rfl rfl rfl rfl (by decide) ?_)
          | (refine z_isbi ?_; first
              | refine o_len tabOk rfl rfl (by decide) ?_
              | refine o_min rfl rfl (by decide) ?_
              | refine o_max rfl rfl (by decide) ?_
              | refine o_append rfl tabOk zeroOk rfl rfl rfl rfl rfl rfl (by first | exact own_rds 0 rfl | exact Rds.cons _ (Rds.cons _ (Rds.cons _ hrl)) | exact Rds.cons _ (Rds.cons _ (Rds.cons _ (Rds.cons _ hrl))) | exact Rds.cons _ (Rds.cons _ (Rds.cons _ (Rds.cons _ (Rds.cons _ hrl)))) | assumption) (by first | rfl | simp) (by first | rfl | simp) (by omega) (by omega) (by decide) fun A' c' => ?_
              | (refine z_front rfl 1 rfl ?_; refine o_append rfl tabOk zeroOk rfl rfl rfl rfl rfl rfl (by first | exact own_rds 0 rfl | exact Rds.cons _ (Rds.cons _ (Rds.cons _ hrl)) | exact Rds.cons _ (Rds.cons _ (Rds.cons _ (Rds.cons _ hrl))) | exact Rds.cons _ (Rds.cons _ (Rds.cons _ (Rds.cons _ (Rds.cons _ hrl)))) | assumption) (by first | rfl | simp) (by first | rfl | simp) (by omega) (by omega) (by decide) fun A' c' => ?_)
              | (refine z_front rfl 2 rfl ?_; refine o_append rfl tabOk zeroOk rfl rfl rfl rfl rfl rfl (by first | exact own_rds 0 rfl | exact Rds.cons _ (Rds.cons _ (Rds.cons _ hrl)) | exact Rds.cons _ (Rds.cons _ (Rds.cons _ (Rds.cons _ hrl))) | exact Rds.cons _ (Rds.cons _ (Rds.cons _ (Rds.cons _ (Rds.cons _ hrl)))) | assumption) (by first | rfl | simp) (by first | rfl | simp) (by omega) (by omega) (by decide) fun A' c' => ?_)
              | (refine z_front rfl 3 rfl ?_; refine o_append rfl tabOk zeroOk rfl rfl rfl rfl rfl rfl (by first | exact own_rds 0 rfl | exact Rds.cons _ (Rds.cons _ (Rds.cons _ hrl)) | exact Rds.cons _ (Rds.cons _ (Rds.cons _ (Rds.cons _ hrl))) | exact Rds.cons _ (Rds.cons _ (Rds.cons _ (Rds.cons _ (Rds.cons _ hrl)))) | assumption) (by first | rfl | simp) (by first | rfl | simp) (by omega) (by omega) (by decide) fun A' c' => ?_)
              | (refine z_front rfl 4 rfl ?_; refine o_append rfl tabOk zeroOk rfl rfl rfl rfl rfl rfl (by first | exact own_rds 0 rfl | exact Rds.cons _ (Rds.cons _ (Rds.cons _ hrl)) | exact Rds.cons _ (Rds.cons _ (Rds.cons _ (Rds.cons _ hrl))) | exact Rds.cons _ (Rds.cons _ (Rds.cons _ (Rds.cons _ (Rds.cons _ hrl)))) | assumption) (by first | rfl | simp) (by first | rfl | simp) (by omega) (by omega) (by decide) fun A' c' => ?_)
              | (refine z_front rfl 5 rfl ?_; refine o_append rfl tabOk zeroOk rfl rfl rfl rfl rfl rfl (by first | exact own_rds 0 rfl | exact Rds.cons _ (Rds.cons _ (Rds.cons _ hrl)) | exact Rds.cons _ (Rds.cons _ (Rds.cons _ (Rds.cons _ hrl))) | exact Rds.cons _ (Rds.cons _ (Rds.cons _ (Rds.cons _ (Rds.cons _ hrl)))) | assumption) (by first | rfl | simp) (by first | rfl | simp) (by omega) (by omega) (by decide) fun A' c' => ?_))
          | refine o_move rfl (by decide) ?_
          | refine o_assign rfl (by decide) ?_
          | refine o_nil rfl (by decide) ?_
          | refine o_extract rfl rfl (by decide) ?_
          | refine o_not rfl (by decide) ?_
          | refine o_field0 tabOk rfl rfl rfl rfl rfl (by decide) ?_
          | refine o_field tabOk rfl rfl rfl rfl rfl (by decide) ?_
          | refine o_conv tabOk rfl rfl rfl (by decide) ?_))
    all_goals
      refine Hold.go ?_
      by_cases hj5 : j < 512
      · have e5 : (!(hasB r ((j : Nat) : Int) == tb r ((j : Nat) : Int).toNat)) = false := by rw [hasB_nat r hj5, Int.toNat_natCast]; simp
        repeat' (first
          | (refine s_is ?_; first
              | refine c_monot (id := 8) 7 mixed (by kernel_rfl) rfl ?_
              | (refine s_isagain ?_; first
                  | exact c_again (j + 1) (by omega) (by omega) ⟨rfl, rfl, rfl, rfl, rfl, trivial⟩ (fun w h => h))
              | (refine s_isw ?_; first
                  | refine c_seq ?_
                  | refine c_block ?_
                  | ((refine c_region_keep [0, 1, 2, 3, 8, 9, 10, 11, 12, 13, 14, 15, 16, 17, 18] (by repeat (first | exact keep_nil | exact keep_end | apply keep_no rfl | apply keep_yes rfl rfl)) ?_; first | refine c_region ?_ | refine c_mixed mixed (by kernel_rfl) ?_))
                  | refine c_mixed mixed (by kernel_rfl) ?_
                  | refine c_skip ?_
                  | refine c_ret ?_
                  | refine c_exit ?_
                  | (refine s_iscond ?_; first
                      | (refine c_true rfl (by first | with_reducible rfl | ((with_reducible refine decide_eq_true ?_); first | with_reducible rfl | with_reducible assumption | omega) | (simp only [Bool.not_eq_true', decide_eq_false_iff_not]; omega) | (with_reducible assumption) | (rw [decide_eq_false] <;> (first | omega | with_reducible rfl)) | (rw [decide_eq_true] <;> (first | omega | with_reducible rfl)) | (simp; done) | (simp; omega)) ?_)
                      | (refine c_false rfl (by first | with_reducible rfl | ((with_reducible refine decide_eq_false ?_); first | with_reducible assumption | omega) | (simp only [Bool.not_eq_false', decide_eq_true_eq]; omega) | (with_reducible assumption) | (rw [decide_eq_false] <;> (first | omega | with_reducible rfl)) | (rw [decide_eq_true] <;> (first | omega | with_reducible rfl)) | (simp; done) | (simp; omega)) ?_)
                      | refine c_cond rfl (fun hc => ?_) (fun hc => ?_)
                      | refine c_condb rfl (fun hc => ?_) (fun hc => ?_)))
              | refine x_then ?_
              | refine x_then_ret ?_
              | refine x_then_exit ?_
              | refine x_block _ ?_
              | refine x_block_ret _ ?_
              | refine x_block_exit _ ?_
              | refine x_block_past (by decide) ?_
              | refine z_tailm ?_)
          | (refine z_isguard ?_; first
              | (refine z_want rfl rfl (by first | with_reducible rfl | ((with_reducible refine decide_eq_true ?_); first | with_reducible rfl | with_reducible assumption | omega) | ((with_reducible refine decide_eq_false ?_); first | with_reducible assumption | omega) | (simp only [Bool.not_eq_true', Bool.not_eq_false', decide_eq_false_iff_not, decide_eq_true_eq]; omega) | (with_reducible assumption) | (rw [decide_eq_false] <;> (first | omega | with_reducible rfl)) | (rw [decide_eq_true] <;> (first | omega | with_reducible rfl)) | (simp; done) | (simp; omega)) ?_)
              | (refine z_skip (by decide) rfl rfl (by first | with_reducible rfl | ((with_reducible refine decide_eq_true ?_); first | with_reducible rfl | with_reducible assumption | omega) | ((with_reducible refine decide_eq_false ?_); first | with_reducible assumption | omega) | (simp only [Bool.not_eq_true', Bool.not_eq_false', decide_eq_false_iff_not, decide_eq_true_eq]; omega) | (with_reducible assumption) | (rw [decide_eq_false] <;> (first | omega | with_reducible rfl)) | (rw [decide_eq_true] <;> (first | omega | with_reducible rfl)) | (simp; done) | (simp; omega)) ?_)
              | refine z_skipu (by decide) rfl rfl ?_
              | refine z_guard1 (by decide) rfl rfl (fun hc => ?_) (fun hc => ?_)
              | refine z_guard0 (by decide) rfl rfl (fun hc => ?_) (fun hc => ?_)
              | refine z_guardb (by decide) rfl rfl (fun hc => ?_) (fun hc => ?_))
          | (refine z_isnil ?_; first
              | refine z_list ?_
              | refine z_mixed ?_
              | refine z_mono0 ?_
              | refine z_mono1 (by decide) fun g => ?_
              | refine z_mono2 (by decide) (by decide) fun g g' => ?_
              | refine z_mixedx ?_
              | refine z_quiet ?_)
          | (refine z_isop ?_; first
              | refine o_boxa rfl rfl (by decide) fun g => ?_
              | refine o_alloca (e := 26) (vs := bm (fun _ => 0)) rfl (by kernel_rfl) (by decide) fun g => ?_
              | refine o_alloca (e := 24) (vs := bm (fun _ => 0)) rfl (by kernel_rfl) (by decide) fun g => ?_
              | refine o_alloca (e := 23) (vs := bm (fun _ => 0)) rfl (by kernel_rfl) (by decide) fun g => ?_
              | refine o_alloca (e := 49) (vs := rm (fun _ => false)) rfl (by kernel_rfl) (by decide) fun g => ?_
              | refine m_alloca (e := 26) (vs := bm (fun _ => 0)) (by kernel_rfl) ?_
              | (refine z_isbin ?_; first
                  | refine o_eqa cmp49 rfl rfl (rm_typed _) (rm_typed _) (by decide) ?_
                  | refine o_nea cmp24 rfl rfl (bm_typed _) (bm_typed _) (by decide) ?_
                  | (refine z_isb .add ?_; first
                      | refine o_add rfl rfl (by omega) (by omega) (by decide) ?_
                      | refine o_addw rfl rfl (by decide) ?_)
                  | (refine z_isb .sub ?_; first
                      | refine o_sub rfl rfl (by omega) (by omega) (by decide) ?_
                      | refine o_subw rfl rfl (by decide) ?_)
                  | (refine z_isb .mul ?_; first
                      | refine o_mul rfl rfl (by omega) (by omega) (by decide) ?_
                      | refine o_mulw rfl rfl (by decide) ?_)
                  | (refine z_isb .eql ?_; first
                      | refine o_eq rfl rfl (by decide) ?_
                      | refine o_beq tabOk rfl rfl rfl (by decide) ?_
                      | refine o_peq tabOk rfl rfl (by decide) ?_)
                  | (refine z_isb .neq ?_; first
                      | refine o_ne rfl rfl (by decide) ?_
                      | refine o_bne tabOk rfl rfl rfl (by decide) ?_
                      | refine o_pne tabOk rfl rfl (by decide) ?_)
                  | (refine z_isb .lss ?_; first
                      | refine o_lt rfl rfl (by decide) ?_)
                  | (refine z_isb .leq ?_; first
                      | refine o_le rfl rfl (by decide) ?_)
                  | (refine z_isb .gtr ?_; first
                      | refine o_gt rfl rfl (by decide) ?_)
                  | (refine z_isb .geq ?_; first
                      | refine o_ge rfl rfl (by decide) ?_)
                  | (refine z_isb .quo ?_; first
                      | refine o_quo rfl rfl (by omega) (by omega) (by omega) (by decide) ?_
                      | refine o_quo8 rfl rfl (by omega) (by omega) (by omega) (by decide) ?_
                      | refine o_quot rfl rfl (by omega) (by decide) ?_)
                  | (refine z_isb .rem ?_; first
                      | refine o_rem rfl rfl (by omega) (by omega) (by decide) ?_
                      | refine o_remk rfl rfl (by omega) (by omega) (by decide) ?_
                      | refine o_remt rfl rfl (by omega) (by decide) ?_)
                  | (refine z_isb .and ?_; first
                      | refine o_and rfl rfl (by decide) ?_)
                  | (refine z_isb .or ?_; first
                      | refine o_or rfl rfl (by decide) ?_)
                  | (refine z_isb .andNot ?_; first
                      | refine o_andNot rfl rfl (by decide) ?_)
                  | (refine z_isb .shl ?_; first
                      | refine o_shl rfl rfl (by omega) (by decide) ?_)
                  | (refine z_isb .shr ?_; first
                      | refine o_shr rfl rfl (by omega) (by decide) ?_))
              | (refine z_isload ?_; first
                  | (refine z_ld1 tabOk rfl rfl ?_; first
                      | ((refine z_ldi 0 rfl rfl ?_; refine o_load tabOk rfl rfl rfl 0 rfl (by first | exact hv | exact bm_at _ (by omega) | exact rm_at _ (by omega) | rfl) (by decide) ?_))
                      | ((refine z_ldi 1 rfl rfl ?_; refine o_load tabOk rfl rfl rfl 1 rfl (by first | exact hv | exact bm_at _ (by omega) | exact rm_at _ (by omega) | rfl) (by decide) ?_))
                      | ((refine z_ldi 2 rfl rfl ?_; refine o_load tabOk rfl rfl rfl 2 rfl (by first | exact hv | exact bm_at _ (by omega) | exact rm_at _ (by omega) | rfl) (by decide) ?_))
                      | ((refine z_ldi 3 rfl rfl ?_; refine o_load tabOk rfl rfl rfl 3 rfl (by first | exact hv | exact bm_at _ (by omega) | exact rm_at _ (by omega) | rfl) (by decide) ?_))
                      | ((refine z_ldi 4 rfl rfl ?_; refine o_load tabOk rfl rfl rfl 4 rfl (by first | exact hv | exact bm_at _ (by omega) | exact rm_at _ (by omega) | rfl) (by decide) ?_))
                      | ((refine z_ldi 5 rfl rfl ?_; refine o_load tabOk rfl rfl rfl 5 rfl (by first | exact hv | exact bm_at _ (by omega) | exact rm_at _ (by omega) | rfl) (by decide) ?_))
                      | ((refine z_ldi 6 rfl rfl ?_; refine o_load tabOk rfl rfl rfl 6 rfl (by first | exact hv | exact bm_at _ (by omega) | exact rm_at _ (by omega) | rfl) (by decide) ?_))
                      | refine o_loads tabOk (by first | exact own_rds 0 rfl | exact Rds.cons _ (Rds.cons _ (Rds.cons _ hrl)) | exact Rds.cons _ (Rds.cons _ (Rds.cons _ (Rds.cons _ hrl))) | exact Rds.cons _ (Rds.cons _ (Rds.cons _ (Rds.cons _ (Rds.cons _ hrl)))) | assumption) rfl rfl rfl (by first | exact hv | exact bm_at _ (by omega) | exact rm_at _ (by omega) | rfl) (by decide) ?_)
                  | (refine z_ldw tabOk rfl rfl ?_; first
                      | ((refine z_ldi 0 rfl rfl ?_; refine o_loadw tabOk rfl rfl rfl 0 rfl (by first | exact bm_len _ | exact rm_len _ | (simp only [bm_len, rm_len]) | rfl) (by decide) ?_))
                      | ((refine z_ldi 1 rfl rfl ?_; refine o_loadw tabOk rfl rfl rfl 1 rfl (by first | exact bm_len _ | exact rm_len _ | (simp only [bm_len, rm_len]) | rfl) (by decide) ?_))
                      | ((refine z_ldi 2 rfl rfl ?_; refine o_loadw tabOk rfl rfl rfl 2 rfl (by first | exact bm_len _ | exact rm_len _ | (simp only [bm_len, rm_len]) | rfl) (by decide) ?_))
                      | ((refine z_ldi 3 rfl rfl ?_; refine o_loadw tabOk rfl rfl rfl 3 rfl (by first | exact bm_len _ | exact rm_len _ | (simp only [bm_len, rm_len]) | rfl) (by decide) ?_))
                      | ((refine z_ldi 4 rfl rfl ?_; refine o_loadw tabOk rfl rfl rfl 4 rfl (by first | exact bm_len _ | exact rm_len _ | (simp only [bm_len, rm_len]) | rfl) (by decide) ?_))
                      | ((refine z_ldi 5 rfl rfl ?_; refine o_loadw tabOk rfl rfl rfl 5 rfl (by first | exact bm_len _ | exact rm_len _ | (simp only [bm_len, rm_len]) | rfl) (by decide) ?_))
                      | ((refine z_ldi 6 rfl rfl ?_; refine o_loadw tabOk rfl rfl rfl 6 rfl (by first | exact bm_len _ | exact rm_len _ | (simp only [bm_len, rm_len]) | rfl) (by decide) ?_))))
              | (refine z_isstore ?_; first
                  | (refine z_stw rfl ?_; first
                      | ((refine z_sti 0 rfl rfl ?_; refine o_storeb0 rfl tabOk rfl rfl rfl (by first | exact bm_len _ | exact rm_len _ | (simp only [bm_len, rm_len]) | rfl) (by first | exact bm_one _ | exact rm_one _ | rfl) (by first | exact bm_len _ | exact rm_len _ | (simp only [bm_len, rm_len]) | rfl) ?_))
                      | ((refine z_sti 1 rfl rfl ?_; refine o_storeb1 rfl tabOk rfl rfl rfl (by first | exact bm_len _ | exact rm_len _ | (simp only [bm_len, rm_len]) | rfl) (by first | exact bm_one _ | exact rm_one _ | rfl) (by first | exact bm_len _ | exact rm_len _ | (simp only [bm_len, rm_len]) | rfl) ?_))
                      | ((refine z_sti 2 rfl rfl ?_; refine o_storeb2 rfl tabOk rfl rfl rfl (by first | exact bm_len _ | exact rm_len _ | (simp only [bm_len, rm_len]) | rfl) (by first | exact bm_one _ | exact rm_one _ | rfl) (by first | exact bm_len _ | exact rm_len _ | (simp only [bm_len, rm_len]) | rfl) ?_))
                      | ((refine z_sti 3 rfl rfl ?_; refine o_storeb3 rfl tabOk rfl rfl rfl (by first | exact bm_len _ | exact rm_len _ | (simp only [bm_len, rm_len]) | rfl) (by first | exact bm_one _ | exact rm_one _ | rfl) (by first | exact bm_len _ | exact rm_len _ | (simp only [bm_len, rm_len]) | rfl) ?_))
                      | ((refine z_sti 4 rfl rfl ?_; refine o_storeb4 rfl tabOk rfl rfl rfl (by first | exact bm_len _ | exact rm_len _ | (simp only [bm_len, rm_len]) | rfl) (by first | exact bm_one _ | exact rm_one _ | rfl) (by first | exact bm_len _ | exact rm_len _ | (simp only [bm_len, rm_len]) | rfl) ?_))
                      | ((refine z_sti 5 rfl rfl ?_; refine o_storeb5 rfl tabOk rfl rfl rfl (by first | exact bm_len _ | exact rm_len _ | (simp only [bm_len, rm_len]) | rfl) (by first | exact bm_one _ | exact rm_one _ | rfl) (by first | exact bm_len _ | exact rm_len _ | (simp only [bm_len, rm_len]) | rfl) ?_))
                      | ((refine z_sti 6 rfl rfl ?_; refine o_storeb6 rfl tabOk rfl rfl rfl (by first | exact bm_len _ | exact rm_len _ | (simp only [bm_len, rm_len]) | rfl) (by first | exact bm_one _ | exact rm_one _ | rfl) (by first | exact bm_len _ | exact rm_len _ | (simp only [bm_len, rm_len]) | rfl) ?_)))
                  | (refine z_st1 rfl rfl ?_; first
                      | refine o_store rfl tabOk rfl rfl rfl rfl rfl (by first | exact hv | exact bm_at _ (by omega) | exact rm_at _ (by omega) | rfl) (by first | exact bm_set _ _ _ | exact rm_set _ _ _ | rfl) ?_
                      | ((refine z_sti 1 rfl rfl ?_; refine o_store1 rfl tabOk rfl rfl rfl rfl rfl (by first | exact hv | exact bm_at _ (by omega) | exact rm_at _ (by omega) | rfl) (by first | exact bm_set _ _ _ | exact rm_set _ _ _ | rfl) ?_))
                      | ((refine z_sti 2 rfl rfl ?_; refine o_store2 rfl tabOk rfl rfl rfl rfl rfl (by first | exact hv | exact bm_at _ (by omega) | exact rm_at _ (by omega) | rfl) (by first | exact bm_set _ _ _ | exact rm_set _ _ _ | rfl) ?_))
                      | ((refine z_sti 3 rfl rfl ?_; refine o_store3 rfl tabOk rfl rfl rfl rfl rfl (by first | exact hv | exact bm_at _ (by omega) | exact rm_at _ (by omega) | rfl) (by first | exact bm_set _ _ _ | exact rm_set _ _ _ | rfl) ?_))
                      | ((refine z_sti 4 rfl rfl ?_; refine o_store4 rfl tabOk rfl rfl rfl rfl rfl (by first | exact hv | exact bm_at _ (by omega) | exact rm_at _ (by omega) | rfl) (by first | exact bm_set _ _ _ | exact rm_set _ _ _ | rfl) ?_))
                      | ((refine z_sti 5 rfl rfl ?_; refine o_store5 rfl tabOk rfl rfl rfl rfl rfl (by first | exact hv | exact bm_at _ (by omega) | exact rm_at _ (by omega) | rfl) (by first | exact bm_set _ _ _ | exact rm_set _ _ _ | rfl) ?_))
                      | ((refine z_sti 6 rfl rfl ?_; refine o_store6 rfl tabOk rfl rfl rfl rfl rfl (by first | exact hv | exact bm_at _ (by omega) | exact rm_at _ (by omega) | rfl) (by first | exact bm_set _ _ _ | exact rm_set _ _ _ | rfl) ?_))))
              | (refine z_isfield ?_; first
                  | refine o_fv tabOk rfl rfl rfl rfl rfl (by first | exact hv | exact bm_at _ (by omega) | exact rm_at _ (by omega) | rfl) (by decide) ?_
                  | refine o_fvw tabOk rfl rfl rfl rfl rfl (by first | exact bm_len _ | exact rm_len _ | (simp only [bm_len, rm_len]) | rfl) (by decide) ?_)
              | (refine z_isindex ?_; first
                  | refine o_ixv tabOk rfl rfl rfl rfl rfl (by omega) (by omega) (by first | exact hv | exact bm_at _ (by omega) | exact rm_at _ (by omega) | rfl) (by decide) ?_)
              | (refine z_ismakes ?_; first
                  | refine o_make1 rfl tabOk zeroOk rfl rfl rfl rfl rfl (by decide) fun g => ?_)
              | (refine z_iscall ?_; first
                  | ((refine z_iscallf 44 ?_; refine o_fn rfl Try.func44 rfl rfl rfl (in_fn _) (by decide) ?_))
                  | ((refine z_iscallf 16 ?_; refine o_fn rfl Try.func16 rfl rfl rfl (has_fn _ (by assumption) _) (by decide) ?_))
                  | ((refine z_iscallf 17 ?_; refine o_fn rfl Try.func17 rfl rfl rfl (take_fn _ (by assumption) _) (by decide) ?_))
                  | ((refine z_iscallf 25 ?_; refine o_fn rfl Try.func25 rfl rfl rfl (free_fn _ (by assumption) _) (by decide) ?_))
                  | ((refine z_iscallf 12 ?_; refine o_fn rfl Try.func12 rfl rfl rfl (of_fn _) (by decide) ?_))
                  | ((refine z_iscallf 24 ?_; refine o_fn rfl Try.func24 rfl rfl rfl (block_fn _) (by decide) ?_))
                  | ((refine z_iscallf 14 ?_; refine o_fn rfl Try.func14 rfl rfl rfl (count_fn _ (by assumption) _ _) (by decide) ?_))
                  | ((refine z_iscallf 18 ?_; refine o_fn rfl Try.func18 rfl rfl rfl (awake24) (by decide) ?_))
                  | ((refine z_iscallf 23 ?_; refine o_fn rfl Try.func23 rfl rfl rfl (rof_fn _ (by assumption)) (by decide) ?_))
                  | ((refine z_iscallf 27 ?_; refine o_fn rfl Try.func27 rfl rfl rfl (rcount_is _ _ _) (by decide) ?_)))
              | (refine z_ispick ?_; first
                  | (refine o_pick1 rfl (by first | with_reducible rfl | ((with_reducible refine decide_eq_true ?_); first | with_reducible rfl | with_reducible assumption | omega) | (simp only [Bool.not_eq_true', decide_eq_false_iff_not]; omega) | (with_reducible assumption) | (rw [decide_eq_false] <;> (first | omega | with_reducible rfl)) | (rw [decide_eq_true] <;> (first | omega | with_reducible rfl)) | (simp; done) | (simp; omega)) rfl (by decide) ?_)
                  | (refine o_pick0 rfl (by first | with_reducible rfl | ((with_reducible refine decide_eq_false ?_); first | with_reducible assumption | omega) | (simp only [Bool.not_eq_false', decide_eq_true_eq]; omega) | (with_reducible assumption) | (rw [decide_eq_false] <;> (first | omega | with_reducible rfl)) | (rw [decide_eq_true] <;> (first | omega | with_reducible rfl)) | (simp; done) | (simp; omega)) rfl (by decide) ?_))
              | (refine z_isix ?_; first
                  | refine o_index0 tabOk rfl rfl rfl rfl (by omega) (by omega) (by decide) ?_
                  | refine o_index1 tabOk rfl rfl rfl rfl (by omega) (by omega) (by decide) ?_
                  | refine o_indexsk tabOk rfl rfl rfl rfl (by omega) (by omega) (by decide) ?_
                  | refine o_indexs1 tabOk (by first | assumption | exact hne (by omega) | assumption) rfl rfl rfl rfl (by omega) (by omega) (by decide) ?_)
              | (refine z_isslice ?_; first
                  | refine o_slice tabOk rfl rfl rfl rfl rfl (by omega) (by omega) (by omega) (by decide) ?_
                  | refine o_slicel tabOk rfl rfl rfl rfl (by omega) (by omega) (by omega) (by decide) ?_
                  | refine o_sliceh tabOk rfl rfl rfl rfl (by omega) (by omega) (by decide) ?_
                  | refine o_slp tabOk rfl rfl rfl rfl rfl (by omega) (by omega) (by omega) (by omega) (by decide) ?_
                  | refine o_slpl tabOk rfl rfl rfl rfl (by omega) (by omega) (by decide) ?_
                  | refine o_slp0 tabOk rfl rfl rfl rfl (by decide) ?_)
              | (refine z_isbi ?_; first
                  | refine o_len tabOk rfl rfl (by decide) ?_
                  | refine o_min rfl rfl (by decide) ?_
                  | refine o_max rfl rfl (by decide) ?_
                  | refine o_append rfl tabOk zeroOk rfl rfl rfl rfl rfl rfl (by first | exact own_rds 0 rfl | exact Rds.cons _ (Rds.cons _ (Rds.cons _ hrl)) | exact Rds.cons _ (Rds.cons _ (Rds.cons _ (Rds.cons _ hrl))) | exact Rds.cons _ (Rds.cons _ (Rds.cons _ (Rds.cons _ (Rds.cons _ hrl)))) | assumption) (by first | rfl | simp) (by first | rfl | simp) (by omega) (by omega) (by decide) fun A' c' => ?_
                  | (refine z_front rfl 1 rfl ?_; refine o_append rfl tabOk zeroOk rfl rfl rfl rfl rfl rfl (by first | exact own_rds 0 rfl | exact Rds.cons _ (Rds.cons _ (Rds.cons _ hrl)) | exact Rds.cons _ (Rds.cons _ (Rds.cons _ (Rds.cons _ hrl))) | exact Rds.cons _ (Rds.cons _ (Rds.cons _ (Rds.cons _ (Rds.cons _ hrl)))) | assumption) (by first | rfl | simp) (by first | rfl | simp) (by omega) (by omega) (by decide) fun A' c' => ?_)
                  | (refine z_front rfl 2 rfl ?_; refine o_append rfl tabOk zeroOk rfl rfl rfl rfl rfl rfl (by first | exact own_rds 0 rfl | exact Rds.cons _ (Rds.cons _ (Rds.cons _ hrl)) | exact Rds.cons _ (Rds.cons _ (Rds.cons _ (Rds.cons _ hrl))) | exact Rds.cons _ (Rds.cons _ (Rds.cons _ (Rds.cons _ (Rds.cons _ hrl)))) | assumption) (by first | rfl | simp) (by first | rfl | simp) (by omega) (by omega) (by decide) fun A' c' => ?_)
                  | (refine z_front rfl 3 rfl ?_; refine o_append rfl tabOk zeroOk rfl rfl rfl rfl rfl rfl (by first | exact own_rds 0 rfl | exact Rds.cons _ (Rds.cons _ (Rds.cons _ hrl)) | exact Rds.cons _ (Rds.cons _ (Rds.cons _ (Rds.cons _ hrl))) | exact Rds.cons _ (Rds.cons _ (Rds.cons _ (Rds.cons _ (Rds.cons _ hrl)))) | assumption) (by first | rfl | simp) (by first | rfl | simp) (by omega) (by omega) (by decide) fun A' c' => ?_)
                  | (refine z_front rfl 4 rfl ?_; refine o_append rfl tabOk zeroOk rfl rfl rfl rfl rfl rfl (by first | exact own_rds 0 rfl | exact Rds.cons _ (Rds.cons _ (Rds.cons _ hrl)) | exact Rds.cons _ (Rds.cons _ (Rds.cons _ (Rds.cons _ hrl))) | exact Rds.cons _ (Rds.cons _ (Rds.cons _ (Rds.cons _ (Rds.cons _ hrl)))) | assumption) (by first | rfl | simp) (by first | rfl | simp) (by omega) (by omega) (by decide) fun A' c' => ?_)
                  | (refine z_front rfl 5 rfl ?_; refine o_append rfl tabOk zeroOk rfl rfl rfl rfl rfl rfl (by first | exact own_rds 0 rfl | exact Rds.cons _ (Rds.cons _ (Rds.cons _ hrl)) | exact Rds.cons _ (Rds.cons _ (Rds.cons _ (Rds.cons _ hrl))) | exact Rds.cons _ (Rds.cons _ (Rds.cons _ (Rds.cons _ (Rds.cons _ hrl)))) | assumption) (by first | rfl | simp) (by first | rfl | simp) (by omega) (by omega) (by decide) fun A' c' => ?_))
              | refine o_move rfl (by decide) ?_
              | refine o_assign rfl (by decide) ?_
              | refine o_nil rfl (by decide) ?_
              | refine o_extract rfl rfl (by decide) ?_
              | refine o_not rfl (by decide) ?_
              | refine o_field0 tabOk rfl rfl rfl rfl rfl (by decide) ?_
              | refine o_field tabOk rfl rfl rfl rfl rfl (by decide) ?_
              | refine o_conv tabOk rfl rfl rfl (by decide) ?_))
      · cases ho : firstV r f t with
        | none =>
          repeat' (first
            | (refine s_is ?_; first
                | refine c_monot (id := 8) 7 mixed (by kernel_rfl) rfl ?_
                | (refine s_isret ?_; first
                    | exact f_r1 rfl (res_t rfl) () trivial rfl (fun w h => h.mask [false, false, false, true]))
                | (refine s_isw ?_; first
                    | refine c_seq ?_
                    | refine c_block ?_
                    | ((refine c_region_keep [0, 1, 2, 3, 8, 9, 10, 11, 12, 13, 14, 15, 16, 17, 18] (by repeat (first | exact keep_nil | exact keep_end | apply keep_no rfl | apply keep_yes rfl rfl)) ?_; first | refine c_region ?_ | refine c_mixed mixed (by kernel_rfl) ?_))
                    | refine c_mixed mixed (by kernel_rfl) ?_
                    | refine c_skip ?_
                    | refine c_ret ?_
                    | refine c_exit ?_
                    | (refine s_iscond ?_; first
                        | (refine c_true rfl (by first | with_reducible rfl | ((with_reducible refine decide_eq_true ?_); first | with_reducible rfl | with_reducible assumption | omega) | (simp only [Bool.not_eq_true', decide_eq_false_iff_not]; omega) | (with_reducible assumption) | (rw [decide_eq_false] <;> (first | omega | with_reducible rfl)) | (rw [decide_eq_true] <;> (first | omega | with_reducible rfl)) | (simp; done) | (simp; omega)) ?_)
                        | (refine c_false rfl (by first | with_reducible rfl | ((with_reducible refine decide_eq_false ?_); first | with_reducible assumption | omega) | (simp only [Bool.not_eq_false', decide_eq_true_eq]; omega) | (with_reducible assumption) | (rw [decide_eq_false] <;> (first | omega | with_reducible rfl)) | (rw [decide_eq_true] <;> (first | omega | with_reducible rfl)) | (simp; done) | (simp; omega)) ?_)
                        | refine c_cond rfl (fun hc => ?_) (fun hc => ?_)
                        | refine c_condb rfl (fun hc => ?_) (fun hc => ?_)))
                | refine x_then ?_
                | refine x_then_ret ?_
                | refine x_then_exit ?_
                | refine x_block _ ?_
                | refine x_block_ret _ ?_
                | refine x_block_exit _ ?_
                | refine x_block_past (by decide) ?_
                | refine z_tailm ?_)
            | (refine z_isguard ?_; first
                | (refine z_want rfl rfl (by first | with_reducible rfl | ((with_reducible refine decide_eq_true ?_); first | with_reducible rfl | with_reducible assumption | omega) | ((with_reducible refine decide_eq_false ?_); first | with_reducible assumption | omega) | (simp only [Bool.not_eq_true', Bool.not_eq_false', decide_eq_false_iff_not, decide_eq_true_eq]; omega) | (with_reducible assumption) | (rw [decide_eq_false] <;> (first | omega | with_reducible rfl)) | (rw [decide_eq_true] <;> (first | omega | with_reducible rfl)) | (simp; done) | (simp; omega)) ?_)
                | (refine z_skip (by decide) rfl rfl (by first | with_reducible rfl | ((with_reducible refine decide_eq_true ?_); first | with_reducible rfl | with_reducible assumption | omega) | ((with_reducible refine decide_eq_false ?_); first | with_reducible assumption | omega) | (simp only [Bool.not_eq_true', Bool.not_eq_false', decide_eq_false_iff_not, decide_eq_true_eq]; omega) | (with_reducible assumption) | (rw [decide_eq_false] <;> (first | omega | with_reducible rfl)) | (rw [decide_eq_true] <;> (first | omega | with_reducible rfl)) | (simp; done) | (simp; omega)) ?_)
                | refine z_skipu (by decide) rfl rfl ?_
                | refine z_guard1 (by decide) rfl rfl (fun hc => ?_) (fun hc => ?_)
                | refine z_guard0 (by decide) rfl rfl (fun hc => ?_) (fun hc => ?_)
                | refine z_guardb (by decide) rfl rfl (fun hc => ?_) (fun hc => ?_))
            | (refine z_isnil ?_; first
                | refine z_list ?_
                | refine z_mixed ?_
                | refine z_mono0 ?_
                | refine z_mono1 (by decide) fun g => ?_
                | refine z_mono2 (by decide) (by decide) fun g g' => ?_
                | refine z_mixedx ?_
                | refine z_quiet ?_)
            | (refine z_isop ?_; first
                | refine o_boxa rfl rfl (by decide) fun g => ?_
                | refine o_alloca (e := 26) (vs := bm (fun _ => 0)) rfl (by kernel_rfl) (by decide) fun g => ?_
                | refine o_alloca (e := 24) (vs := bm (fun _ => 0)) rfl (by kernel_rfl) (by decide) fun g => ?_
                | refine o_alloca (e := 23) (vs := bm (fun _ => 0)) rfl (by kernel_rfl) (by decide) fun g => ?_
                | refine o_alloca (e := 49) (vs := rm (fun _ => false)) rfl (by kernel_rfl) (by decide) fun g => ?_
                | refine m_alloca (e := 26) (vs := bm (fun _ => 0)) (by kernel_rfl) ?_
                | (refine z_isbin ?_; first
                    | refine o_eqa cmp49 rfl rfl (rm_typed _) (rm_typed _) (by decide) ?_
                    | refine o_nea cmp24 rfl rfl (bm_typed _) (bm_typed _) (by decide) ?_
                    | (refine z_isb .add ?_; first
                        | refine o_add rfl rfl (by omega) (by omega) (by decide) ?_
                        | refine o_addw rfl rfl (by decide) ?_)
                    | (refine z_isb .sub ?_; first
                        | refine o_sub rfl rfl (by omega) (by omega) (by decide) ?_
                        | refine o_subw rfl rfl (by decide) ?_)
                    | (refine z_isb .mul ?_; first
                        | refine o_mul rfl rfl (by omega) (by omega) (by decide) ?_
                        | refine o_mulw rfl rfl (by decide) ?_)
                    | (refine z_isb .eql ?_; first
                        | refine o_eq rfl rfl (by decide) ?_
                        | refine o_beq tabOk rfl rfl rfl (by decide) ?_
                        | refine o_peq tabOk rfl rfl (by decide) ?_)
                    | (refine z_isb .neq ?_; first
                        | refine o_ne rfl rfl (by decide) ?_
                        | refine o_bne tabOk rfl rfl rfl (by decide) ?_
                        | refine o_pne tabOk rfl rfl (by decide) ?_)
                    | (refine z_isb .lss ?_; first
                        | refine o_lt rfl rfl (by decide) ?_)
                    | (refine z_isb .leq ?_; first
                        | refine o_le rfl rfl (by decide) ?_)
                    | (refine z_isb .gtr ?_; first
                        | refine o_gt rfl rfl (by decide) ?_)
                    | (refine z_isb .geq ?_; first
                        | refine o_ge rfl rfl (by decide) ?_)
                    | (refine z_isb .quo ?_; first
                        | refine o_quo rfl rfl (by omega) (by omega) (by omega) (by decide) ?_
                        | refine o_quo8 rfl rfl (by omega) (by omega) (by omega) (by decide) ?_
                        | refine o_quot rfl rfl (by omega) (by decide) ?_)
                    | (refine z_isb .rem ?_; first
                        | refine o_rem rfl rfl (by omega) (by omega) (by decide) ?_
                        | refine o_remk rfl rfl (by omega) (by omega) (by decide) ?_
                        | refine o_remt rfl rfl (by omega) (by decide) ?_)
                    | (refine z_isb .and ?_; first
                        | refine o_and rfl rfl (by decide) ?_)
                    | (refine z_isb .or ?_; first
                        | refine o_or rfl rfl (by decide) ?_)
                    | (refine z_isb .andNot ?_; first
                        | refine o_andNot rfl rfl (by decide) ?_)
                    | (refine z_isb .shl ?_; first
                        | refine o_shl rfl rfl (by omega) (by decide) ?_)
                    | (refine z_isb .shr ?_; first
                        | refine o_shr rfl rfl (by omega) (by decide) ?_))
                | (refine z_isload ?_; first
                    | (refine z_ld1 tabOk rfl rfl ?_; first
                        | ((refine z_ldi 0 rfl rfl ?_; refine o_load tabOk rfl rfl rfl 0 rfl (by first | exact hv | exact bm_at _ (by omega) | exact rm_at _ (by omega) | rfl) (by decide) ?_))
                        | ((refine z_ldi 1 rfl rfl ?_; refine o_load tabOk rfl rfl rfl 1 rfl (by first | exact hv | exact bm_at _ (by omega) | exact rm_at _ (by omega) | rfl) (by decide) ?_))
                        | ((refine z_ldi 2 rfl rfl ?_; refine o_load tabOk rfl rfl rfl 2 rfl (by first | exact hv | exact bm_at _ (by omega) | exact rm_at _ (by omega) | rfl) (by decide) ?_))
                        | ((refine z_ldi 3 rfl rfl ?_; refine o_load tabOk rfl rfl rfl 3 rfl (by first | exact hv | exact bm_at _ (by omega) | exact rm_at _ (by omega) | rfl) (by decide) ?_))
                        | ((refine z_ldi 4 rfl rfl ?_; refine o_load tabOk rfl rfl rfl 4 rfl (by first | exact hv | exact bm_at _ (by omega) | exact rm_at _ (by omega) | rfl) (by decide) ?_))
                        | ((refine z_ldi 5 rfl rfl ?_; refine o_load tabOk rfl rfl rfl 5 rfl (by first | exact hv | exact bm_at _ (by omega) | exact rm_at _ (by omega) | rfl) (by decide) ?_))
                        | ((refine z_ldi 6 rfl rfl ?_; refine o_load tabOk rfl rfl rfl 6 rfl (by first | exact hv | exact bm_at _ (by omega) | exact rm_at _ (by omega) | rfl) (by decide) ?_))
                        | refine o_loads tabOk (by first | exact own_rds 0 rfl | exact Rds.cons _ (Rds.cons _ (Rds.cons _ hrl)) | exact Rds.cons _ (Rds.cons _ (Rds.cons _ (Rds.cons _ hrl))) | exact Rds.cons _ (Rds.cons _ (Rds.cons _ (Rds.cons _ (Rds.cons _ hrl)))) | assumption) rfl rfl rfl (by first | exact hv | exact bm_at _ (by omega) | exact rm_at _ (by omega) | rfl) (by decide) ?_)
                    | (refine z_ldw tabOk rfl rfl ?_; first
                        | ((refine z_ldi 0 rfl rfl ?_; refine o_loadw tabOk rfl rfl rfl 0 rfl (by first | exact bm_len _ | exact rm_len _ | (simp only [bm_len, rm_len]) | rfl) (by decide) ?_))
                        | ((refine z_ldi 1 rfl rfl ?_; refine o_loadw tabOk rfl rfl rfl 1 rfl (by first | exact bm_len _ | exact rm_len _ | (simp only [bm_len, rm_len]) | rfl) (by decide) ?_))
                        | ((refine z_ldi 2 rfl rfl ?_; refine o_loadw tabOk rfl rfl rfl 2 rfl (by first | exact bm_len _ | exact rm_len _ | (simp only [bm_len, rm_len]) | rfl) (by decide) ?_))
                        | ((refine z_ldi 3 rfl rfl ?_; refine o_loadw tabOk rfl rfl rfl 3 rfl (by first | exact bm_len _ | exact rm_len _ | (simp only [bm_len, rm_len]) | rfl) (by decide) ?_))
                        | ((refine z_ldi 4 rfl rfl ?_; refine o_loadw tabOk rfl rfl rfl 4 rfl (by first | exact bm_len _ | exact rm_len _ | (simp only [bm_len, rm_len]) | rfl) (by decide) ?_))
                        | ((refine z_ldi 5 rfl rfl ?_; refine o_loadw tabOk rfl rfl rfl 5 rfl (by first | exact bm_len _ | exact rm_len _ | (simp only [bm_len, rm_len]) | rfl) (by decide) ?_))
                        | ((refine z_ldi 6 rfl rfl ?_; refine o_loadw tabOk rfl rfl rfl 6 rfl (by first | exact bm_len _ | exact rm_len _ | (simp only [bm_len, rm_len]) | rfl) (by decide) ?_))))
                | (refine z_isstore ?_; first
                    | (refine z_stw rfl ?_; first
                        | ((refine z_sti 0 rfl rfl ?_; refine o_storeb0 rfl tabOk rfl rfl rfl (by first | exact bm_len _ | exact rm_len _ | (simp only [bm_len, rm_len]) | rfl) (by first | exact bm_one _ | exact rm_one _ | rfl) (by first | exact bm_len _ | exact rm_len _ | (simp only [bm_len, rm_len]) | rfl) ?_))
                        | ((refine z_sti 1 rfl rfl ?_; refine o_storeb1 rfl tabOk rfl rfl rfl (by first | exact bm_len _ | exact rm_len _ | (simp only [bm_len, rm_len]) | rfl) (by first | exact bm_one _ | exact rm_one _ | rfl) (by first | exact bm_len _ | exact rm_len _ | (simp only [bm_len, rm_len]) | rfl) ?_))
                        | ((refine z_sti 2 rfl rfl ?_; refine o_storeb2 rfl tabOk rfl rfl rfl (by first | exact bm_len _ | exact rm_len _ | (simp only [bm_len, rm_len]) | rfl) (by first | exact bm_one _ | exact rm_one _ | rfl) (by first | exact bm_len _ | exact rm_len _ | (simp only [bm_len, rm_len]) | rfl) ?_))
                        | ((refine z_sti 3 rfl rfl ?_; refine o_storeb3 rfl tabOk rfl rfl rfl (by first | exact bm_len _ | exact rm_len _ | (simp only [bm_len, rm_len]) | rfl) (by first | exact bm_one _ | exact rm_one _ | rfl) (by first | exact bm_len _ | exact rm_len _ | (simp only [bm_len, rm_len]) | rfl) ?_))
                        | ((refine z_sti 4 rfl rfl ?_; refine o_storeb4 rfl tabOk rfl rfl rfl (by first | exact bm_len _ | exact rm_len _ | (simp only [bm_len, rm_len]) | rfl) (by first | exact bm_one _ | exact rm_one _ | rfl) (by first | exact bm_len _ | exact rm_len _ | (simp only [bm_len, rm_len]) | rfl) ?_))
                        | ((refine z_sti 5 rfl rfl ?_; refine o_storeb5 rfl tabOk rfl rfl rfl (by first | exact bm_len _ | exact rm_len _ | (simp only [bm_len, rm_len]) | rfl) (by first | exact bm_one _ | exact rm_one _ | rfl) (by first | exact bm_len _ | exact rm_len _ | (simp only [bm_len, rm_len]) | rfl) ?_))
                        | ((refine z_sti 6 rfl rfl ?_; refine o_storeb6 rfl tabOk rfl rfl rfl (by first | exact bm_len _ | exact rm_len _ | (simp only [bm_len, rm_len]) | rfl) (by first | exact bm_one _ | exact rm_one _ | rfl) (by first | exact bm_len _ | exact rm_len _ | (simp only [bm_len, rm_len]) | rfl) ?_)))
                    | (refine z_st1 rfl rfl ?_; first
                        | refine o_store rfl tabOk rfl rfl rfl rfl rfl (by first | exact hv | exact bm_at _ (by omega) | exact rm_at _ (by omega) | rfl) (by first | exact bm_set _ _ _ | exact rm_set _ _ _ | rfl) ?_
                        | ((refine z_sti 1 rfl rfl ?_; refine o_store1 rfl tabOk rfl rfl rfl rfl rfl (by first | exact hv | exact bm_at _ (by omega) | exact rm_at _ (by omega) | rfl) (by first | exact bm_set _ _ _ | exact rm_set _ _ _ | rfl) ?_))
                        | ((refine z_sti 2 rfl rfl ?_; refine o_store2 rfl tabOk rfl rfl rfl rfl rfl (by first | exact hv | exact bm_at _ (by omega) | exact rm_at _ (by omega) | rfl) (by first | exact bm_set _ _ _ | exact rm_set _ _ _ | rfl) ?_))
                        | ((refine z_sti 3 rfl rfl ?_; refine o_store3 rfl tabOk rfl rfl rfl rfl rfl (by first | exact hv | exact bm_at _ (by omega) | exact rm_at _ (by omega) | rfl) (by first | exact bm_set _ _ _ | exact rm_set _ _ _ | rfl) ?_))
                        | ((refine z_sti 4 rfl rfl ?_; refine o_store4 rfl tabOk rfl rfl rfl rfl rfl (by first | exact hv | exact bm_at _ (by omega) | exact rm_at _ (by omega) | rfl) (by first | exact bm_set _ _ _ | exact rm_set _ _ _ | rfl) ?_))
                        | ((refine z_sti 5 rfl rfl ?_; refine o_store5 rfl tabOk rfl rfl rfl rfl rfl (by first | exact hv | exact bm_at _ (by omega) | exact rm_at _ (by omega) | rfl) (by first | exact bm_set _ _ _ | exact rm_set _ _ _ | rfl) ?_))
                        | ((refine z_sti 6 rfl rfl ?_; refine o_store6 rfl tabOk rfl rfl rfl rfl rfl (by first | exact hv | exact bm_at _ (by omega) | exact rm_at _ (by omega) | rfl) (by first | exact bm_set _ _ _ | exact rm_set _ _ _ | rfl) ?_))))
                | (refine z_isfield ?_; first
                    | refine o_fv tabOk rfl rfl rfl rfl rfl (by first | exact hv | exact bm_at _ (by omega) | exact rm_at _ (by omega) | rfl) (by decide) ?_
                    | refine o_fvw tabOk rfl rfl rfl rfl rfl (by first | exact bm_len _ | exact rm_len _ | (simp only [bm_len, rm_len]) | rfl) (by decide) ?_)
                | (refine z_isindex ?_; first
                    | refine o_ixv tabOk rfl rfl rfl rfl rfl (by omega) (by omega) (by first | exact hv | exact bm_at _ (by omega) | exact rm_at _ (by omega) | rfl) (by decide) ?_)
                | (refine z_ismakes ?_; first
                    | refine o_make1 rfl tabOk zeroOk rfl rfl rfl rfl rfl (by decide) fun g => ?_)
                | (refine z_iscall ?_; first
                    | refine o_fn rfl Try.func15 rfl rfl rfl (first_is hr ho) (by decide) ?_
                    | refine o_fn rfl Try.func26 rfl rfl rfl (rfirst_none ho) (by decide) ?_
                    | ((refine z_iscallf 44 ?_; refine o_fn rfl Try.func44 rfl rfl rfl (in_fn _) (by decide) ?_))
                    | ((refine z_iscallf 16 ?_; refine o_fn rfl Try.func16 rfl rfl rfl (has_fn _ (by assumption) _) (by decide) ?_))
                    | ((refine z_iscallf 17 ?_; refine o_fn rfl Try.func17 rfl rfl rfl (take_fn _ (by assumption) _) (by decide) ?_))
                    | ((refine z_iscallf 25 ?_; refine o_fn rfl Try.func25 rfl rfl rfl (free_fn _ (by assumption) _) (by decide) ?_))
                    | ((refine z_iscallf 12 ?_; refine o_fn rfl Try.func12 rfl rfl rfl (of_fn _) (by decide) ?_))
                    | ((refine z_iscallf 24 ?_; refine o_fn rfl Try.func24 rfl rfl rfl (block_fn _) (by decide) ?_))
                    | ((refine z_iscallf 14 ?_; refine o_fn rfl Try.func14 rfl rfl rfl (count_fn _ (by assumption) _ _) (by decide) ?_))
                    | ((refine z_iscallf 18 ?_; refine o_fn rfl Try.func18 rfl rfl rfl (awake24) (by decide) ?_))
                    | ((refine z_iscallf 23 ?_; refine o_fn rfl Try.func23 rfl rfl rfl (rof_fn _ (by assumption)) (by decide) ?_))
                    | ((refine z_iscallf 27 ?_; refine o_fn rfl Try.func27 rfl rfl rfl (rcount_is _ _ _) (by decide) ?_)))
                | (refine z_ispick ?_; first
                    | (refine o_pick1 rfl (by first | with_reducible rfl | ((with_reducible refine decide_eq_true ?_); first | with_reducible rfl | with_reducible assumption | omega) | (simp only [Bool.not_eq_true', decide_eq_false_iff_not]; omega) | (with_reducible assumption) | (rw [decide_eq_false] <;> (first | omega | with_reducible rfl)) | (rw [decide_eq_true] <;> (first | omega | with_reducible rfl)) | (simp; done) | (simp; omega)) rfl (by decide) ?_)
                    | (refine o_pick0 rfl (by first | with_reducible rfl | ((with_reducible refine decide_eq_false ?_); first | with_reducible assumption | omega) | (simp only [Bool.not_eq_false', decide_eq_true_eq]; omega) | (with_reducible assumption) | (rw [decide_eq_false] <;> (first | omega | with_reducible rfl)) | (rw [decide_eq_true] <;> (first | omega | with_reducible rfl)) | (simp; done) | (simp; omega)) rfl (by decide) ?_))
                | (refine z_isix ?_; first
                    | refine o_index0 tabOk rfl rfl rfl rfl (by omega) (by omega) (by decide) ?_
                    | refine o_index1 tabOk rfl rfl rfl rfl (by omega) (by omega) (by decide) ?_
                    | refine o_indexsk tabOk rfl rfl rfl rfl (by omega) (by omega) (by decide) ?_
                    | refine o_indexs1 tabOk (by first | assumption | exact hne (by omega) | assumption) rfl rfl rfl rfl (by omega) (by omega) (by decide) ?_)
                | (refine z_isslice ?_; first
                    | refine o_slice tabOk rfl rfl rfl rfl rfl (by omega) (by omega) (by omega) (by decide) ?_
                    | refine o_slicel tabOk rfl rfl rfl rfl (by omega) (by omega) (by omega) (by decide) ?_
                    | refine o_sliceh tabOk rfl rfl rfl rfl (by omega) (by omega) (by decide) ?_
                    | refine o_slp tabOk rfl rfl rfl rfl rfl (by omega) (by omega) (by omega) (by omega) (by decide) ?_
                    | refine o_slpl tabOk rfl rfl rfl rfl (by omega) (by omega) (by decide) ?_
                    | refine o_slp0 tabOk rfl rfl rfl rfl (by decide) ?_)
                | (refine z_isbi ?_; first
                    | refine o_len tabOk rfl rfl (by decide) ?_
                    | refine o_min rfl rfl (by decide) ?_
                    | refine o_max rfl rfl (by decide) ?_
                    | refine o_append rfl tabOk zeroOk rfl rfl rfl rfl rfl rfl (by first | exact own_rds 0 rfl | exact Rds.cons _ (Rds.cons _ (Rds.cons _ hrl)) | exact Rds.cons _ (Rds.cons _ (Rds.cons _ (Rds.cons _ hrl))) | exact Rds.cons _ (Rds.cons _ (Rds.cons _ (Rds.cons _ (Rds.cons _ hrl)))) | assumption) (by first | rfl | simp) (by first | rfl | simp) (by omega) (by omega) (by decide) fun A' c' => ?_
                    | (refine z_front rfl 1 rfl ?_; refine o_append rfl tabOk zeroOk rfl rfl rfl rfl rfl rfl (by first | exact own_rds 0 rfl | exact Rds.cons _ (Rds.cons _ (Rds.cons _ hrl)) | exact Rds.cons _ (Rds.cons _ (Rds.cons _ (Rds.cons _ hrl))) | exact Rds.cons _ (Rds.cons _ (Rds.cons _ (Rds.cons _ (Rds.cons _ hrl)))) | assumption) (by first | rfl | simp) (by first | rfl | simp) (by omega) (by omega) (by decide) fun A' c' => ?_)
                    | (refine z_front rfl 2 rfl ?_; refine o_append rfl tabOk zeroOk rfl rfl rfl rfl rfl rfl (by first | exact own_rds 0 rfl | exact Rds.cons _ (Rds.cons _ (Rds.cons _ hrl)) | exact Rds.cons _ (Rds.cons _ (Rds.cons _ (Rds.cons _ hrl))) | exact Rds.cons _ (Rds.cons _ (Rds.cons _ (Rds.cons _ (Rds.cons _ hrl)))) | assumption) (by first | rfl | simp) (by first | rfl | simp) (by omega) (by omega) (by decide) fun A' c' => ?_)
                    | (refine z_front rfl 3 rfl ?_; refine o_append rfl tabOk zeroOk rfl rfl rfl rfl rfl rfl (by first | exact own_rds 0 rfl | exact Rds.cons _ (Rds.cons _ (Rds.cons _ hrl)) | exact Rds.cons _ (Rds.cons _ (Rds.cons _ (Rds.cons _ hrl))) | exact Rds.cons _ (Rds.cons _ (Rds.cons _ (Rds.cons _ (Rds.cons _ hrl)))) | assumption) (by first | rfl | simp) (by first | rfl | simp) (by omega) (by omega) (by decide) fun A' c' => ?_)
                    | (refine z_front rfl 4 rfl ?_; refine o_append rfl tabOk zeroOk rfl rfl rfl rfl rfl rfl (by first | exact own_rds 0 rfl | exact Rds.cons _ (Rds.cons _ (Rds.cons _ hrl)) | exact Rds.cons _ (Rds.cons _ (Rds.cons _ (Rds.cons _ hrl))) | exact Rds.cons _ (Rds.cons _ (Rds.cons _ (Rds.cons _ (Rds.cons _ hrl)))) | assumption) (by first | rfl | simp) (by first | rfl | simp) (by omega) (by omega) (by decide) fun A' c' => ?_)
                    | (refine z_front rfl 5 rfl ?_; refine o_append rfl tabOk zeroOk rfl rfl rfl rfl rfl rfl (by first | exact own_rds 0 rfl | exact Rds.cons _ (Rds.cons _ (Rds.cons _ hrl)) | exact Rds.cons _ (Rds.cons _ (Rds.cons _ (Rds.cons _ hrl))) | exact Rds.cons _ (Rds.cons _ (Rds.cons _ (Rds.cons _ (Rds.cons _ hrl)))) | assumption) (by first | rfl | simp) (by first | rfl | simp) (by omega) (by omega) (by decide) fun A' c' => ?_))
                | refine o_move rfl (by decide) ?_
                | refine o_assign rfl (by decide) ?_
                | refine o_nil rfl (by decide) ?_
                | refine o_extract rfl rfl (by decide) ?_
                | refine o_not rfl (by decide) ?_
                | refine o_field0 tabOk rfl rfl rfl rfl rfl (by decide) ?_
                | refine o_field tabOk rfl rfl rfl rfl rfl (by decide) ?_
                | refine o_conv tabOk rfl rfl rfl (by decide) ?_))
        | some k =>
          repeat' (first
            | (refine s_is ?_; first
                | refine c_monot (id := 8) 7 mixed (by kernel_rfl) rfl ?_
                | (refine s_isret ?_; first
                    | exact f_r1 rfl (res_t rfl) () trivial rfl (fun w h => h.mask [false, false, false, true]))
                | (refine s_isw ?_; first
                    | refine c_seq ?_
                    | refine c_block ?_
                    | ((refine c_region_keep [0, 1, 2, 3, 8, 9, 10, 11, 12, 13, 14, 15, 16, 17, 18] (by repeat (first | exact keep_nil | exact keep_end | apply keep_no rfl | apply keep_yes rfl rfl)) ?_; first | refine c_region ?_ | refine c_mixed mixed (by kernel_rfl) ?_))
                    | refine c_mixed mixed (by kernel_rfl) ?_
                    | refine c_skip ?_
                    | refine c_ret ?_
                    | refine c_exit ?_
                    | (refine s_iscond ?_; first
                        | (refine c_true rfl (by first | with_reducible rfl | ((with_reducible refine decide_eq_true ?_); first | with_reducible rfl | with_reducible assumption | omega) | (simp only [Bool.not_eq_true', decide_eq_false_iff_not]; omega) | (with_reducible assumption) | (rw [decide_eq_false] <;> (first | omega | with_reducible rfl)) | (rw [decide_eq_true] <;> (first | omega | with_reducible rfl)) | (simp; done) | (simp; omega)) ?_)
                        | (refine c_false rfl (by first | with_reducible rfl | ((with_reducible refine decide_eq_false ?_); first | with_reducible assumption | omega) | (simp only [Bool.not_eq_false', decide_eq_true_eq]; omega) | (with_reducible assumption) | (rw [decide_eq_false] <;> (first | omega | with_reducible rfl)) | (rw [decide_eq_true] <;> (first | omega | with_reducible rfl)) | (simp; done) | (simp; omega)) ?_)
                        | refine c_cond rfl (fun hc => ?_) (fun hc => ?_)
                        | refine c_condb rfl (fun hc => ?_) (fun hc => ?_)))
                | refine x_then ?_
                | refine x_then_ret ?_
                | refine x_then_exit ?_
                | refine x_block _ ?_
                | refine x_block_ret _ ?_
                | refine x_block_exit _ ?_
                | refine x_block_past (by decide) ?_
                | refine z_tailm ?_)
            | (refine z_isguard ?_; first
                | (refine z_want rfl rfl (by first | with_reducible rfl | ((with_reducible refine decide_eq_true ?_); first | with_reducible rfl | with_reducible assumption | omega) | ((with_reducible refine decide_eq_false ?_); first | with_reducible assumption | omega) | (simp only [Bool.not_eq_true', Bool.not_eq_false', decide_eq_false_iff_not, decide_eq_true_eq]; omega) | (with_reducible assumption) | (rw [decide_eq_false] <;> (first | omega | with_reducible rfl)) | (rw [decide_eq_true] <;> (first | omega | with_reducible rfl)) | (simp; done) | (simp; omega)) ?_)
                | (refine z_skip (by decide) rfl rfl (by first | with_reducible rfl | ((with_reducible refine decide_eq_true ?_); first | with_reducible rfl | with_reducible assumption | omega) | ((with_reducible refine decide_eq_false ?_); first | with_reducible assumption | omega) | (simp only [Bool.not_eq_true', Bool.not_eq_false', decide_eq_false_iff_not, decide_eq_true_eq]; omega) | (with_reducible assumption) | (rw [decide_eq_false] <;> (first | omega | with_reducible rfl)) | (rw [decide_eq_true] <;> (first | omega | with_reducible rfl)) | (simp; done) | (simp; omega)) ?_)
                | refine z_skipu (by decide) rfl rfl ?_
                | refine z_guard1 (by decide) rfl rfl (fun hc => ?_) (fun hc => ?_)
                | refine z_guard0 (by decide) rfl rfl (fun hc => ?_) (fun hc => ?_)
                | refine z_guardb (by decide) rfl rfl (fun hc => ?_) (fun hc => ?_))
            | (refine z_isnil ?_; first
                | refine z_list ?_
                | refine z_mixed ?_
                | refine z_mono0 ?_
                | refine z_mono1 (by decide) fun g => ?_
                | refine z_mono2 (by decide) (by decide) fun g g' => ?_
                | refine z_mixedx ?_
                | refine z_quiet ?_)
            | (refine z_isop ?_; first
                | refine o_boxa rfl rfl (by decide) fun g => ?_
                | refine o_alloca (e := 26) (vs := bm (fun _ => 0)) rfl (by kernel_rfl) (by decide) fun g => ?_
                | refine o_alloca (e := 24) (vs := bm (fun _ => 0)) rfl (by kernel_rfl) (by decide) fun g => ?_
                | refine o_alloca (e := 23) (vs := bm (fun _ => 0)) rfl (by kernel_rfl) (by decide) fun g => ?_
                | refine o_alloca (e := 49) (vs := rm (fun _ => false)) rfl (by kernel_rfl) (by decide) fun g => ?_
                | refine m_alloca (e := 26) (vs := bm (fun _ => 0)) (by kernel_rfl) ?_
                | (refine z_isbin ?_; first
                    | refine o_eqa cmp49 rfl rfl (rm_typed _) (rm_typed _) (by decide) ?_
                    | refine o_nea cmp24 rfl rfl (bm_typed _) (bm_typed _) (by decide) ?_
                    | (refine z_isb .add ?_; first
                        | refine o_add rfl rfl (by omega) (by omega) (by decide) ?_
                        | refine o_addw rfl rfl (by decide) ?_)
                    | (refine z_isb .sub ?_; first
                        | refine o_sub rfl rfl (by omega) (by omega) (by decide) ?_
                        | refine o_subw rfl rfl (by decide) ?_)
                    | (refine z_isb .mul ?_; first
                        | refine o_mul rfl rfl (by omega) (by omega) (by decide) ?_
                        | refine o_mulw rfl rfl (by decide) ?_)
                    | (refine z_isb .eql ?_; first
                        | refine o_eq rfl rfl (by decide) ?_
                        | refine o_beq tabOk rfl rfl rfl (by decide) ?_
                        | refine o_peq tabOk rfl rfl (by decide) ?_)
                    | (refine z_isb .neq ?_; first
                        | refine o_ne rfl rfl (by decide) ?_
                        | refine o_bne tabOk rfl rfl rfl (by decide) ?_
                        | refine o_pne tabOk rfl rfl (by decide) ?_)
                    | (refine z_isb .lss ?_; first
                        | refine o_lt rfl rfl (by decide) ?_)
                    | (refine z_isb .leq ?_; first
                        | refine o_le rfl rfl (by decide) ?_)
                    | (refine z_isb .gtr ?_; first
                        | refine o_gt rfl rfl (by decide) ?_)
                    | (refine z_isb .geq ?_; first
                        | refine o_ge rfl rfl (by decide) ?_)
                    | (refine z_isb .quo ?_; first
                        | refine o_quo rfl rfl (by omega) (by omega) (by omega) (by decide) ?_
                        | refine o_quo8 rfl rfl (by omega) (by omega) (by omega) (by decide) ?_
                        | refine o_quot rfl rfl (by omega) (by decide) ?_)
                    | (refine z_isb .rem ?_; first
                        | refine o_rem rfl rfl (by omega) (by omega) (by decide) ?_
                        | refine o_remk rfl rfl (by omega) (by omega) (by decide) ?_
                        | refine o_remt rfl rfl (by omega) (by decide) ?_)
                    | (refine z_isb .and ?_; first
                        | refine o_and rfl rfl (by decide) ?_)
                    | (refine z_isb .or ?_; first
                        | refine o_or rfl rfl (by decide) ?_)
                    | (refine z_isb .andNot ?_; first
                        | refine o_andNot rfl rfl (by decide) ?_)
                    | (refine z_isb .shl ?_; first
                        | refine o_shl rfl rfl (by omega) (by decide) ?_)
                    | (refine z_isb .shr ?_; first
                        | refine o_shr rfl rfl (by omega) (by decide) ?_))
                | (refine z_isload ?_; first
                    | (refine z_ld1 tabOk rfl rfl ?_; first
                        | ((refine z_ldi 0 rfl rfl ?_; refine o_load tabOk rfl rfl rfl 0 rfl (by first | exact hv | exact bm_at _ (by omega) | exact rm_at _ (by omega) | rfl) (by decide) ?_))
                        | ((refine z_ldi 1 rfl rfl ?_; refine o_load tabOk rfl rfl rfl 1 rfl (by first | exact hv | exact bm_at _ (by omega) | exact rm_at _ (by omega) | rfl) (by decide) ?_))
                        | ((refine z_ldi 2 rfl rfl ?_; refine o_load tabOk rfl rfl rfl 2 rfl (by first | exact hv | exact bm_at _ (by omega) | exact rm_at _ (by omega) | rfl) (by decide) ?_))
                        | ((refine z_ldi 3 rfl rfl ?_; refine o_load tabOk rfl rfl rfl 3 rfl (by first | exact hv | exact bm_at _ (by omega) | exact rm_at _ (by omega) | rfl) (by decide) ?_))
                        | ((refine z_ldi 4 rfl rfl ?_; refine o_load tabOk rfl rfl rfl 4 rfl (by first | exact hv | exact bm_at _ (by omega) | exact rm_at _ (by omega) | rfl) (by decide) ?_))
                        | ((refine z_ldi 5 rfl rfl ?_; refine o_load tabOk rfl rfl rfl 5 rfl (by first | exact hv | exact bm_at _ (by omega) | exact rm_at _ (by omega) | rfl) (by decide) ?_))
                        | ((refine z_ldi 6 rfl rfl ?_; refine o_load tabOk rfl rfl rfl 6 rfl (by first | exact hv | exact bm_at _ (by omega) | exact rm_at _ (by omega) | rfl) (by decide) ?_))
                        | refine o_loads tabOk (by first | exact own_rds 0 rfl | exact Rds.cons _ (Rds.cons _ (Rds.cons _ hrl)) | exact Rds.cons _ (Rds.cons _ (Rds.cons _ (Rds.cons _ hrl))) | exact Rds.cons _ (Rds.cons _ (Rds.cons _ (Rds.cons _ (Rds.cons _ hrl)))) | assumption) rfl rfl rfl (by first | exact hv | exact bm_at _ (by omega) | exact rm_at _ (by omega) | rfl) (by decide) ?_)
                    | (refine z_ldw tabOk rfl rfl ?_; first
                        | ((refine z_ldi 0 rfl rfl ?_; refine o_loadw tabOk rfl rfl rfl 0 rfl (by first | exact bm_len _ | exact rm_len _ | (simp only [bm_len, rm_len]) | rfl) (by decide) ?_))
                        | ((refine z_ldi 1 rfl rfl ?_; refine o_loadw tabOk rfl rfl rfl 1 rfl (by first | exact bm_len _ | exact rm_len _ | (simp only [bm_len, rm_len]) | rfl) (by decide) ?_))
                        | ((refine z_ldi 2 rfl rfl ?_; refine o_loadw tabOk rfl rfl rfl 2 rfl (by first | exact bm_len _ | exact rm_len _ | (simp only [bm_len, rm_len]) | rfl) (by decide) ?_))
                        | ((refine z_ldi 3 rfl rfl ?_; refine o_loadw tabOk rfl rfl rfl 3 rfl (by first | exact bm_len _ | exact rm_len _ | (simp only [bm_len, rm_len]) | rfl) (by decide) ?_))
                        | ((refine z_ldi 4 rfl rfl ?_; refine o_loadw tabOk rfl rfl rfl 4 rfl (by first | exact bm_len _ | exact rm_len _ | (simp only [bm_len, rm_len]) | rfl) (by decide) ?_))
                        | ((refine z_ldi 5 rfl rfl ?_; refine o_loadw tabOk rfl rfl rfl 5 rfl (by first | exact bm_len _ | exact rm_len _ | (simp only [bm_len, rm_len]) | rfl) (by decide) ?_))
                        | ((refine z_ldi 6 rfl rfl ?_; refine o_loadw tabOk rfl rfl rfl 6 rfl (by first | exact bm_len _ | exact rm_len _ | (simp only [bm_len, rm_len]) | rfl) (by decide) ?_))))
                | (refine z_isstore ?_; first
                    | (refine z_stw rfl ?_; first
                        | ((refine z_sti 0 rfl rfl ?_; refine o_storeb0 rfl tabOk rfl rfl rfl (by first | exact bm_len _ | exact rm_len _ | (simp only [bm_len, rm_len]) | rfl) (by first | exact bm_one _ | exact rm_one _ | rfl) (by first | exact bm_len _ | exact rm_len _ | (simp only [bm_len, rm_len]) | rfl) ?_))
                        | ((refine z_sti 1 rfl rfl ?_; refine o_storeb1 rfl tabOk rfl rfl rfl (by first | exact bm_len _ | exact rm_len _ | (simp only [bm_len, rm_len]) | rfl) (by first | exact bm_one _ | exact rm_one _ | rfl) (by first | exact bm_len _ | exact rm_len _ | (simp only [bm_len, rm_len]) | rfl) ?_))
                        | ((refine z_sti 2 rfl rfl ?_; refine o_storeb2 rfl tabOk rfl rfl rfl (by first | exact bm_len _ | exact rm_len _ | (simp only [bm_len, rm_len]) | rfl) (by first | exact bm_one _ | exact rm_one _ | rfl) (by first | exact bm_len _ | exact rm_len _ | (simp only [bm_len, rm_len]) | rfl) ?_))
                        | ((refine z_sti 3 rfl rfl ?_; refine o_storeb3 rfl tabOk rfl rfl rfl (by first | exact bm_len _ | exact rm_len _ | (simp only [bm_len, rm_len]) | rfl) (by first | exact bm_one _ | exact rm_one _ | rfl) (by first | exact bm_len _ | exact rm_len _ | (simp only [bm_len, rm_len]) | rfl) ?_))
                        | ((refine z_sti 4 rfl rfl ?_; refine o_storeb4 rfl tabOk rfl rfl rfl (by first | exact bm_len _ | exact rm_len _ | (simp only [bm_len, rm_len]) | rfl) (by first | exact bm_one _ | exact rm_one _ | rfl) (by first | exact bm_len _ | exact rm_len _ | (simp only [bm_len, rm_len]) | rfl) ?_))
                        | ((refine z_sti 5 rfl rfl ?_; refine o_storeb5 rfl tabOk rfl rfl rfl (by first | exact bm_len _ | exact rm_len _ | (simp only [bm_len, rm_len]) | rfl) (by first | exact bm_one _ | exact rm_one _ | rfl) (by first | exact bm_len _ | exact rm_len _ | (simp only [bm_len, rm_len]) | rfl) ?_))
                        | ((refine z_sti 6 rfl rfl ?_; refine o_storeb6 rfl tabOk rfl rfl rfl (by first | exact bm_len _ | exact rm_len _ | (simp only [bm_len, rm_len]) | rfl) (by first | exact bm_one _ | exact rm_one _ | rfl) (by first | exact bm_len _ | exact rm_len _ | (simp only [bm_len, rm_len]) | rfl) ?_)))
                    | (refine z_st1 rfl rfl ?_; first
                        | refine o_store rfl tabOk rfl rfl rfl rfl rfl (by first | exact hv | exact bm_at _ (by omega) | exact rm_at _ (by omega) | rfl) (by first | exact bm_set _ _ _ | exact rm_set _ _ _ | rfl) ?_
                        | ((refine z_sti 1 rfl rfl ?_; refine o_store1 rfl tabOk rfl rfl rfl rfl rfl (by first | exact hv | exact bm_at _ (by omega) | exact rm_at _ (by omega) | rfl) (by first | exact bm_set _ _ _ | exact rm_set _ _ _ | rfl) ?_))
                        | ((refine z_sti 2 rfl rfl ?_; refine o_store2 rfl tabOk rfl rfl rfl rfl rfl (by first | exact hv | exact bm_at _ (by omega) | exact rm_at _ (by omega) | rfl) (by first | exact bm_set _ _ _ | exact rm_set _ _ _ | rfl) ?_))
                        | ((refine z_sti 3 rfl rfl ?_; refine o_store3 rfl tabOk rfl rfl rfl rfl rfl (by first | exact hv | exact bm_at _ (by omega) | exact rm_at _ (by omega) | rfl) (by first | exact bm_set _ _ _ | exact rm_set _ _ _ | rfl) ?_))
                        | ((refine z_sti 4 rfl rfl ?_; refine o_store4 rfl tabOk rfl rfl rfl rfl rfl (by first | exact hv | exact bm_at _ (by omega) | exact rm_at _ (by omega) | rfl) (by first | exact bm_set _ _ _ | exact rm_set _ _ _ | rfl) ?_))
                        | ((refine z_sti 5 rfl rfl ?_; refine o_store5 rfl tabOk rfl rfl rfl rfl rfl (by first | exact hv | exact bm_at _ (by omega) | exact rm_at _ (by omega) | rfl) (by first | exact bm_set _ _ _ | exact rm_set _ _ _ | rfl) ?_))
                        | ((refine z_sti 6 rfl rfl ?_; refine o_store6 rfl tabOk rfl rfl rfl rfl rfl (by first | exact hv | exact bm_at _ (by omega) | exact rm_at _ (by omega) | rfl) (by first | exact bm_set _ _ _ | exact rm_set _ _ _ | rfl) ?_))))
                | (refine z_isfield ?_; first
                    | refine o_fv tabOk rfl rfl rfl rfl rfl (by first | exact hv | exact bm_at _ (by omega) | exact rm_at _ (by omega) | rfl) (by decide) ?_
                    | refine o_fvw tabOk rfl rfl rfl rfl rfl (by first | exact bm_len _ | exact rm_len _ | (simp only [bm_len, rm_len]) | rfl) (by decide) ?_)
                | (refine z_isindex ?_; first
                    | refine o_ixv tabOk rfl rfl rfl rfl rfl (by omega) (by omega) (by first | exact hv | exact bm_at _ (by omega) | exact rm_at _ (by omega) | rfl) (by decide) ?_)
                | (refine z_ismakes ?_; first
                    | refine o_make1 rfl tabOk zeroOk rfl rfl rfl rfl rfl (by decide) fun g => ?_)
                | (refine z_iscall ?_; first
                    | refine o_fn rfl Try.func15 rfl rfl rfl (first_is hr ho) (by decide) ?_
                    | refine o_fn rfl Try.func26 rfl rfl rfl (rfirst_some ho) (by decide) ?_
                    | ((refine z_iscallf 44 ?_; refine o_fn rfl Try.func44 rfl rfl rfl (in_fn _) (by decide) ?_))
                    | ((refine z_iscallf 16 ?_; refine o_fn rfl Try.func16 rfl rfl rfl (has_fn _ (by assumption) _) (by decide) ?_))
                    | ((refine z_iscallf 17 ?_; refine o_fn rfl Try.func17 rfl rfl rfl (take_fn _ (by assumption) _) (by decide) ?_))
                    | ((refine z_iscallf 25 ?_; refine o_fn rfl Try.func25 rfl rfl rfl (free_fn _ (by assumption) _) (by decide) ?_))
                    | ((refine z_iscallf 12 ?_; refine o_fn rfl Try.func12 rfl rfl rfl (of_fn _) (by decide) ?_))
                    | ((refine z_iscallf 24 ?_; refine o_fn rfl Try.func24 rfl rfl rfl (block_fn _) (by decide) ?_))
                    | ((refine z_iscallf 14 ?_; refine o_fn rfl Try.func14 rfl rfl rfl (count_fn _ (by assumption) _ _) (by decide) ?_))
                    | ((refine z_iscallf 18 ?_; refine o_fn rfl Try.func18 rfl rfl rfl (awake24) (by decide) ?_))
                    | ((refine z_iscallf 23 ?_; refine o_fn rfl Try.func23 rfl rfl rfl (rof_fn _ (by assumption)) (by decide) ?_))
                    | ((refine z_iscallf 27 ?_; refine o_fn rfl Try.func27 rfl rfl rfl (rcount_is _ _ _) (by decide) ?_)))
                | (refine z_ispick ?_; first
                    | (refine o_pick1 rfl (by first | with_reducible rfl | ((with_reducible refine decide_eq_true ?_); first | with_reducible rfl | with_reducible assumption | omega) | (simp only [Bool.not_eq_true', decide_eq_false_iff_not]; omega) | (with_reducible assumption) | (rw [decide_eq_false] <;> (first | omega | with_reducible rfl)) | (rw [decide_eq_true] <;> (first | omega | with_reducible rfl)) | (simp; done) | (simp; omega)) rfl (by decide) ?_)
                    | (refine o_pick0 rfl (by first | with_reducible rfl | ((with_reducible refine decide_eq_false ?_); first | with_reducible assumption | omega) | (simp only [Bool.not_eq_false', decide_eq_true_eq]; omega) | (with_reducible assumption) | (rw [decide_eq_false] <;> (first | omega | with_reducible rfl)) | (rw [decide_eq_true] <;> (first | omega | with_reducible rfl)) | (simp; done) | (simp; omega)) rfl (by decide) ?_))
                | (refine z_isix ?_; first
                    | refine o_index0 tabOk rfl rfl rfl rfl (by omega) (by omega) (by decide) ?_
                    | refine o_index1 tabOk rfl rfl rfl rfl (by omega) (by omega) (by decide) ?_
                    | refine o_indexsk tabOk rfl rfl rfl rfl (by omega) (by omega) (by decide) ?_
                    | refine o_indexs1 tabOk (by first | assumption | exact hne (by omega) | assumption) rfl rfl rfl rfl (by omega) (by omega) (by decide) ?_)
                | (refine z_isslice ?_; first
                    | refine o_slice tabOk rfl rfl rfl rfl rfl (by omega) (by omega) (by omega) (by decide) ?_
                    | refine o_slicel tabOk rfl rfl rfl rfl (by omega) (by omega) (by omega) (by decide) ?_
                    | refine o_sliceh tabOk rfl rfl rfl rfl (by omega) (by omega) (by decide) ?_
                    | refine o_slp tabOk rfl rfl rfl rfl rfl (by omega) (by omega) (by omega) (by omega) (by decide) ?_
                    | refine o_slpl tabOk rfl rfl rfl rfl (by omega) (by omega) (by decide) ?_
                    | refine o_slp0 tabOk rfl rfl rfl rfl (by decide) ?_)
                | (refine z_isbi ?_; first
                    | refine o_len tabOk rfl rfl (by decide) ?_
                    | refine o_min rfl rfl (by decide) ?_
                    | refine o_max rfl rfl (by decide) ?_
                    | refine o_append rfl tabOk zeroOk rfl rfl rfl rfl rfl rfl (by first | exact own_rds 0 rfl | exact Rds.cons _ (Rds.cons _ (Rds.cons _ hrl)) | exact Rds.cons _ (Rds.cons _ (Rds.cons _ (Rds.cons _ hrl))) | exact Rds.cons _ (Rds.cons _ (Rds.cons _ (Rds.cons _ (Rds.cons _ hrl)))) | assumption) (by first | rfl | simp) (by first | rfl | simp) (by omega) (by omega) (by decide) fun A' c' => ?_
                    | (refine z_front rfl 1 rfl ?_; refine o_append rfl tabOk zeroOk rfl rfl rfl rfl rfl rfl (by first | exact own_rds 0 rfl | exact Rds.cons _ (Rds.cons _ (Rds.cons _ hrl)) | exact Rds.cons _ (Rds.cons _ (Rds.cons _ (Rds.cons _ hrl))) | exact Rds.cons _ (Rds.cons _ (Rds.cons _ (Rds.cons _ (Rds.cons _ hrl)))) | assumption) (by first | rfl | simp) (by first | rfl | simp) (by omega) (by omega) (by decide) fun A' c' => ?_)
                    | (refine z_front rfl 2 rfl ?_; refine o_append rfl tabOk zeroOk rfl rfl rfl rfl rfl rfl (by first | exact own_rds 0 rfl | exact Rds.cons _ (Rds.cons _ (Rds.cons _ hrl)) | exact Rds.cons _ (Rds.cons _ (Rds.cons _ (Rds.cons _ hrl))) | exact Rds.cons _ (Rds.cons _ (Rds.cons _ (Rds.cons _ (Rds.cons _ hrl)))) | assumption) (by first | rfl | simp) (by first | rfl | simp) (by omega) (by omega) (by decide) fun A' c' => ?_)
                    | (refine z_front rfl 3 rfl ?_; refine o_append rfl tabOk zeroOk rfl rfl rfl rfl rfl rfl (by first | exact own_rds 0 rfl | exact Rds.cons _ (Rds.cons _ (Rds.cons _ hrl)) | exact Rds.cons _ (Rds.cons _ (Rds.cons _ (Rds.cons _ hrl))) | exact Rds.cons _ (Rds.cons _ (Rds.cons _ (Rds.cons _ (Rds.cons _ hrl)))) | assumption) (by first | rfl | simp) (by first | rfl | simp) (by omega) (by omega) (by decide) fun A' c' => ?_)
                    | (refine z_front rfl 4 rfl ?_; refine o_append rfl tabOk zeroOk rfl rfl rfl rfl rfl rfl (by first | exact own_rds 0 rfl | exact Rds.cons _ (Rds.cons _ (Rds.cons _ hrl)) | exact Rds.cons _ (Rds.cons _ (Rds.cons _ (Rds.cons _ hrl))) | exact Rds.cons _ (Rds.cons _ (Rds.cons _ (Rds.cons _ (Rds.cons _ hrl)))) | assumption) (by first | rfl | simp) (by first | rfl | simp) (by omega) (by omega) (by decide) fun A' c' => ?_)
                    | (refine z_front rfl 5 rfl ?_; refine o_append rfl tabOk zeroOk rfl rfl rfl rfl rfl rfl (by first | exact own_rds 0 rfl | exact Rds.cons _ (Rds.cons _ (Rds.cons _ hrl)) | exact Rds.cons _ (Rds.cons _ (Rds.cons _ (Rds.cons _ hrl))) | exact Rds.cons _ (Rds.cons _ (Rds.cons _ (Rds.cons _ (Rds.cons _ hrl)))) | assumption) (by first | rfl | simp) (by first | rfl | simp) (by omega) (by omega) (by decide) fun A' c' => ?_))
                | refine o_move rfl (by decide) ?_
                | refine o_assign rfl (by decide) ?_
                | refine o_nil rfl (by decide) ?_
                | refine o_extract rfl rfl (by decide) ?_
                | refine o_not rfl (by decide) ?_
                | refine o_field0 tabOk rfl rfl rfl rfl rfl (by decide) ?_
                | refine o_field tabOk rfl rfl rfl rfl rfl (by decide) ?_
                | refine o_conv tabOk rfl rfl rfl (by decide) ?_))
end Go.Proofs.Ytjejnlfbonpfaaa
