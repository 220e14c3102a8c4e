/-
The document's signals: what each of its functions does to its state.
-/
import Derived.Test.YtjejnlfbonpfaaaDoorSig3
namespace Go.Proofs.YtjejnlfbonpfaaaDoor
set_option linter.unusedVariables false
set_option linter.unusedSimpArgs false
open Eng
structure Rf where
  g : Nat → Bool
  h : Nat → Int
  b : Bool
  c : Cx
def boCs (g : Nat → Bool) : List Value := arr 9 fun i => .bool (g i)
theorem bo_len (g : Nat → Bool) : (boCs g).length = 9 := arr_length _ _
theorem bo_one (g : Nat → Bool) : (boCs g).all (·.oneCell') = true := by simp [boCs, arr]; intros; rfl
def Rf.cs (r : Rf) : List Value := boCs r.g ++ (hsCs r.h ++ .bool r.b :: r.c.cs)
theorem rf_len (r : Rf) : r.cs.length = 36 := by simp [Rf.cs, bo_len, hs_len, cx_len]
theorem rf_one (r : Rf) : r.cs.all (·.oneCell') = true := by
  have h1 := hs_one r.h
  have h2 := cx_one r.c
  have h3 := bo_one r.g
  simp only [Rf.cs, List.all_cons, List.all_append, h1, h2, h3, Bool.and_true, Bool.true_and]
  rfl
theorem rf_g (r : Rf) {i : Nat} (h : i < 9) : r.cs[i]? = some (.bool (r.g i)) := by
  unfold Rf.cs
  rw [List.getElem?_append_left (by rw [bo_len]; exact h)]
  exact arr_get h
theorem rf_tl (r : Rf) (i : Nat) : r.cs[9 + i]? = (hsCs r.h ++ .bool r.b :: r.c.cs)[i]? := by
  unfold Rf.cs
  rw [List.getElem?_append_right (by rw [bo_len]; omega), bo_len, Nat.add_sub_cancel_left]
theorem rf_h (r : Rf) {i : Nat} (h : i < 9) : r.cs[9 + i]? = some (.int .u32 (r.h i)) := by
  rw [rf_tl, List.getElem?_append_left (by rw [hs_len]; exact h)]
  exact arr_get h
theorem rf_b (r : Rf) : r.cs[18]? = some (.bool r.b) := by
  show r.cs[9 + 9]? = _
  rw [rf_tl, List.getElem?_append_right (by rw [hs_len]; omega), hs_len]; rfl
theorem rf_c (r : Rf) : ∀ (j : Nat) u, r.c.cs[j]? = some u → r.cs[19 + j]? = some u := fun j u h => by
  rw [show 19 + j = 9 + (10 + j) by omega, rf_tl, List.getElem?_append_right (by rw [hs_len]; omega), hs_len, show 10 + j - 9 = j + 1 by omega]
  exact h
theorem rf_set_g (r : Rf) {i : Nat} (h : i < 9) (x : Bool) : r.cs.set i (.bool x) = ({ r with g := upd r.g i x } : Rf).cs := by
  unfold Rf.cs
  rw [List.set_append_left _ _ (by rw [bo_len]; exact h)]
  have : (boCs r.g).set i (.bool x) = boCs (upd r.g i x) := by
    unfold boCs
    rw [arr_set]
    congr 1
    funext j
    by_cases e : j = i <;> simp [upd, e]
  rw [this]
theorem rf_set_tl (r : Rf) (i : Nat) (v : Value) : r.cs.set (9 + i) v = boCs r.g ++ (hsCs r.h ++ .bool r.b :: r.c.cs).set i v := by
  unfold Rf.cs
  rw [List.set_append_right _ _ (by rw [bo_len]; omega), bo_len, Nat.add_sub_cancel_left]
theorem rf_set_h (r : Rf) {i : Nat} (h : i < 9) (x : Int) : r.cs.set (9 + i) (.int .u32 x) = ({ r with h := upd r.h i x } : Rf).cs := by
  rw [rf_set_tl, List.set_append_left _ _ (by rw [hs_len]; exact h)]
  have : (hsCs r.h).set i (.int .u32 x) = hsCs (upd r.h i x) := by
    unfold hsCs
    rw [arr_set]
    congr 1
    funext j
    by_cases e : j = i <;> simp [upd, e]
  rw [this]; rfl
theorem rf_set_b (r : Rf) (x : Bool) : r.cs.set 18 (.bool x) = ({ r with b := x } : Rf).cs := by
  show r.cs.set (9 + 9) _ = _
  rw [rf_set_tl, List.set_append_right _ _ (by rw [hs_len]; omega), hs_len]; rfl
theorem rf_split (r : Rf) : r.cs = (boCs r.g ++ (hsCs r.h ++ [Value.bool r.b])) ++ r.c.cs := by simp [Rf.cs]
theorem rf_set_c (r : Rf) (c : Cx) : r.cs.take 19 ++ c.cs ++ r.cs.drop (19 + c.cs.length) = ({ r with c := c } : Rf).cs := by
  have hl : (boCs r.g ++ (hsCs r.h ++ [Value.bool r.b])).length = 19 := by simp [hs_len, bo_len]
  rw [List.drop_eq_nil_of_le (by rw [rf_len, cx_len]; omega), List.append_nil, rf_split r, List.take_append_of_le_length (by omega), List.take_of_length_le (by omega), rf_split]
theorem rf_set_gs (r : Rf) (g : Nat → Bool) : r.cs.take 0 ++ boCs g ++ r.cs.drop (0 + (boCs g).length) = ({ r with g := g } : Rf).cs := by
  rw [List.take_zero, List.nil_append, Nat.zero_add, bo_len]
  show boCs g ++ (boCs r.g ++ _).drop 9 = _
  rw [List.drop_append_of_le_length (by rw [bo_len]; omega), List.drop_eq_nil_of_le (by rw [bo_len]; omega)]
  rfl
attribute [local irreducible] Eng.Hold Eng.Z Eng.S Eng.cells Eng.old Eng.own Sg.cs Cx.cs hsCs deB deT tzi dCs tz Sg.waits Rf.cs boCs
/-- The state's place. -/
def pq (b : Nat) : Value := .pointer (some ⟨b, 0, none⟩)
def Rf.raise (r : Rf) (i : Int) : Rf := if 1 ≤ i ∧ i ≤ 8 then { r with g := upd r.g i.toNat true } else r
theorem rraise_c (b : Nat) (r : Rf) (i : Int) : Does Tryd.prog 14 [.pointer (some ⟨b, 0, none⟩), .int .i64 i] [cells b 34 r.cs] (fun _ : Unit => True) (fun _ => .int .i64 (if 1 ≤ i ∧ i ≤ 8 then 0 else 1)) (fun _ => [cells b 34 (r.raise i).cs]) := by
  intro w hw
  refine f_enter Tryd.func14 rfl Tryd.ntmps14 rfl hw ?_
  unfold Rf.raise
  by_cases h : 1 ≤ i ∧ i ≤ 8
  · rw [if_pos h, if_pos h]
    repeat' (first
     | (refine s_is ?_; first
     | (refine s_isret ?_; first
     | exact f_r1 rfl (res_t rfl) () trivial rfl (fun w h => h))
     | (refine s_isw ?_; first
     | refine c_seq ?_
     | refine c_block ?_
     | refine c_region ?_
     | refine c_mixed mixed (by kernel_rfl) ?_
     | refine c_skip ?_
     | refine c_ret ?_
     | refine c_exit ?_
     | (refine s_iscond ?_; first
     | (refine c_true rfl (by first | with_reducible rfl | with_reducible assumption | ((with_reducible refine decide_eq_true ?_); first | with_reducible rfl | with_reducible assumption | omega)) ?_)
     | (refine c_false rfl (by first | with_reducible rfl | with_reducible assumption | ((with_reducible refine decide_eq_false ?_); first | with_reducible assumption | omega)) ?_)
     | (refine c_true rfl (by first | (simp only [Bool.not_eq_true', decide_eq_false_iff_not]; omega) | (with_reducible assumption) | (rw [decide_eq_false] <;> (first | omega | with_reducible rfl)) | (rw [decide_eq_true] <;> (first | omega | with_reducible rfl)) | (simp; done) | (simp; omega)) ?_)
     | (refine c_false rfl (by first | (simp only [Bool.not_eq_false', decide_eq_true_eq]; omega) | (with_reducible assumption) | (rw [decide_eq_false] <;> (first | omega | with_reducible rfl)) | (rw [decide_eq_true] <;> (first | omega | with_reducible rfl)) | (simp; done) | (simp; omega)) ?_)
     | refine c_cond rfl (fun hc => ?_) (fun hc => ?_)
     | refine c_condb rfl (fun hc => ?_) (fun hc => ?_)))
     | refine x_then ?_
     | refine x_then_ret ?_
     | refine x_then_exit ?_
     | refine x_block _ ?_
     | refine x_block_ret _ ?_
     | refine x_block_exit _ ?_
     | refine x_block_past (by decide) ?_
     | refine z_tailm ?_)
     | (refine z_isg0 ?_; first
     | refine z_skipu (by decide) rfl rfl ?_
     | (refine z_want0 rfl rfl (by first | with_reducible rfl | with_reducible assumption | ((with_reducible refine decide_eq_false ?_); first | with_reducible assumption | omega)) ?_)
     | (refine z_skip0 (by decide) rfl rfl (by first | with_reducible rfl | with_reducible assumption | ((with_reducible refine decide_eq_true ?_); first | with_reducible rfl | with_reducible assumption | omega)) ?_)
     | (refine z_want0 rfl rfl (by first | (simp only [Bool.not_eq_false', decide_eq_true_eq]; omega) | (with_reducible assumption) | (rw [decide_eq_false] <;> (first | omega | with_reducible rfl)) | (rw [decide_eq_true] <;> (first | omega | with_reducible rfl)) | (simp; done) | (simp; omega)) ?_)
     | (refine z_skip0 (by decide) rfl rfl (by first | (simp only [Bool.not_eq_true', decide_eq_false_iff_not]; omega) | (with_reducible assumption) | (rw [decide_eq_false] <;> (first | omega | with_reducible rfl)) | (rw [decide_eq_true] <;> (first | omega | with_reducible rfl)) | (simp; done) | (simp; omega)) ?_)
     | refine z_guard0 (by decide) rfl rfl (fun hc => ?_) (fun hc => ?_)
     | refine z_guardb (by decide) rfl rfl (fun hc => ?_) (fun hc => ?_))
     | (refine z_isnil ?_; first
     | refine z_keep1 ?_
     | refine z_list ?_
     | refine z_mixed ?_
     | refine z_mono0 ?_
     | refine z_mono1 (by decide) fun g => ?_
     | refine z_mono2 (by decide) (by decide) fun g g' => ?_
     | refine z_mixedx ?_
     | refine z_quiet ?_)
     | (refine z_isop ?_; first
     | refine o_boxa rfl rfl (by decide) fun g => ?_
     | refine o_alloca (e := 26) (vs := Cx.zero.cs) rfl (by kernel_rfl) (by decide) fun g => ?_
     | refine o_build (t := 26) (v := .agg Cx.zero.cs.toArray) rfl (fun _ => by kernel_rfl) (by decide) ?_
     | refine o_build (t := 32) (v := .agg (boCs fun _ => false).toArray) rfl (fun _ => by kernel_rfl) (by decide) ?_
     | (refine z_isbin ?_; first
     | (refine z_isb .lss ?_; first
     | refine o_lt rfl rfl (by decide) ?_)
     | (refine z_isb .gtr ?_; first
     | refine o_gt rfl rfl (by decide) ?_))
     | (refine z_isstore ?_; first
     | (refine o_storew_at rfl 0 tabOk rfl rfl rfl rfl (cx_len _) (cx_one _) (by rw [rf_len, cx_len]; decide) (rf_set_c _ _) ?_)
     | (refine o_storew_at rfl 1 tabOk rfl rfl rfl rfl (cx_len _) (cx_one _) (by rw [rf_len, cx_len]; decide) (rf_set_c _ _) ?_)
     | (refine o_storew_at rfl 2 tabOk rfl rfl rfl rfl (cx_len _) (cx_one _) (by rw [rf_len, cx_len]; decide) (rf_set_c _ _) ?_)
     | (refine o_storew_at rfl 2 tabOk rfl rfl rfl rfl (bo_len _) (bo_one _) (by rw [rf_len, bo_len]; decide) (rf_set_gs _ _) ?_)
     | refine o_storebk 0 tabOk rfl rfl rfl rfl (by first | exact rf_len _ | exact cx_len _ | exact bo_len _ | (simp only [rf_len, cx_len, bo_len]) | rfl) (by first | exact rf_one _ | exact cx_one _ | exact bo_one _ | rfl) (by first | exact rf_len _ | exact cx_len _ | exact bo_len _ | (simp only [rf_len, cx_len, bo_len]) | rfl) ?_
     | (refine z_stw rfl ?_; first
     | ((refine z_sti 0 rfl rfl ?_; refine o_storeb0 rfl tabOk rfl rfl rfl (by first | exact rf_len _ | exact cx_len _ | exact bo_len _ | (simp only [rf_len, cx_len, bo_len]) | rfl) (by first | exact rf_one _ | exact cx_one _ | exact bo_one _ | rfl) (by first | exact rf_len _ | exact cx_len _ | exact bo_len _ | (simp only [rf_len, cx_len, bo_len]) | rfl) ?_))
     | ((refine z_sti 1 rfl rfl ?_; refine o_storeb1 rfl tabOk rfl rfl rfl (by first | exact rf_len _ | exact cx_len _ | exact bo_len _ | (simp only [rf_len, cx_len, bo_len]) | rfl) (by first | exact rf_one _ | exact cx_one _ | exact bo_one _ | rfl) (by first | exact rf_len _ | exact cx_len _ | exact bo_len _ | (simp only [rf_len, cx_len, bo_len]) | rfl) ?_))
     | ((refine z_sti 2 rfl rfl ?_; refine o_storeb2 rfl tabOk rfl rfl rfl (by first | exact rf_len _ | exact cx_len _ | exact bo_len _ | (simp only [rf_len, cx_len, bo_len]) | rfl) (by first | exact rf_one _ | exact cx_one _ | exact bo_one _ | rfl) (by first | exact rf_len _ | exact cx_len _ | exact bo_len _ | (simp only [rf_len, cx_len, bo_len]) | rfl) ?_))
     | ((refine z_sti 3 rfl rfl ?_; refine o_storeb3 rfl tabOk rfl rfl rfl (by first | exact rf_len _ | exact cx_len _ | exact bo_len _ | (simp only [rf_len, cx_len, bo_len]) | rfl) (by first | exact rf_one _ | exact cx_one _ | exact bo_one _ | rfl) (by first | exact rf_len _ | exact cx_len _ | exact bo_len _ | (simp only [rf_len, cx_len, bo_len]) | rfl) ?_))
     | ((refine z_sti 4 rfl rfl ?_; refine o_storeb4 rfl tabOk rfl rfl rfl (by first | exact rf_len _ | exact cx_len _ | exact bo_len _ | (simp only [rf_len, cx_len, bo_len]) | rfl) (by first | exact rf_one _ | exact cx_one _ | exact bo_one _ | rfl) (by first | exact rf_len _ | exact cx_len _ | exact bo_len _ | (simp only [rf_len, cx_len, bo_len]) | rfl) ?_))
     | ((refine z_sti 5 rfl rfl ?_; refine o_storeb5 rfl tabOk rfl rfl rfl (by first | exact rf_len _ | exact cx_len _ | exact bo_len _ | (simp only [rf_len, cx_len, bo_len]) | rfl) (by first | exact rf_one _ | exact cx_one _ | exact bo_one _ | rfl) (by first | exact rf_len _ | exact cx_len _ | exact bo_len _ | (simp only [rf_len, cx_len, bo_len]) | rfl) ?_))
     | ((refine z_sti 6 rfl rfl ?_; refine o_storeb6 rfl tabOk rfl rfl rfl (by first | exact rf_len _ | exact cx_len _ | exact bo_len _ | (simp only [rf_len, cx_len, bo_len]) | rfl) (by first | exact rf_one _ | exact cx_one _ | exact bo_one _ | rfl) (by first | exact rf_len _ | exact cx_len _ | exact bo_len _ | (simp only [rf_len, cx_len, bo_len]) | rfl) ?_)))
     | (refine z_st1 rfl rfl ?_; first
     | refine o_store rfl tabOk rfl rfl rfl rfl rfl (by first | exact rf_g _ (by omega) | exact rf_h _ (by omega) | exact rf_b _ | exact cx_pc _ | exact cx_r _ (by omega) | rfl) (by first | exact rf_set_g _ (by omega) _ | exact rf_set_h _ (by omega) _ | exact rf_set_b _ _ | exact cx_set_pc _ _ | exact cx_set_r _ (by omega) _ | rfl) ?_
     | ((refine z_sti 1 rfl rfl ?_; refine o_store1 rfl tabOk rfl rfl rfl rfl rfl (by first | exact rf_g _ (by omega) | exact rf_h _ (by omega) | exact rf_b _ | exact cx_pc _ | exact cx_r _ (by omega) | rfl) (by first | exact rf_set_g _ (by omega) _ | exact rf_set_h _ (by omega) _ | exact rf_set_b _ _ | exact cx_set_pc _ _ | exact cx_set_r _ (by omega) _ | rfl) ?_))
     | ((refine z_sti 2 rfl rfl ?_; refine o_store2 rfl tabOk rfl rfl rfl rfl rfl (by first | exact rf_g _ (by omega) | exact rf_h _ (by omega) | exact rf_b _ | exact cx_pc _ | exact cx_r _ (by omega) | rfl) (by first | exact rf_set_g _ (by omega) _ | exact rf_set_h _ (by omega) _ | exact rf_set_b _ _ | exact cx_set_pc _ _ | exact cx_set_r _ (by omega) _ | rfl) ?_))
     | ((refine z_sti 3 rfl rfl ?_; refine o_store3 rfl tabOk rfl rfl rfl rfl rfl (by first | exact rf_g _ (by omega) | exact rf_h _ (by omega) | exact rf_b _ | exact cx_pc _ | exact cx_r _ (by omega) | rfl) (by first | exact rf_set_g _ (by omega) _ | exact rf_set_h _ (by omega) _ | exact rf_set_b _ _ | exact cx_set_pc _ _ | exact cx_set_r _ (by omega) _ | rfl) ?_))
     | ((refine z_sti 4 rfl rfl ?_; refine o_store4 rfl tabOk rfl rfl rfl rfl rfl (by first | exact rf_g _ (by omega) | exact rf_h _ (by omega) | exact rf_b _ | exact cx_pc _ | exact cx_r _ (by omega) | rfl) (by first | exact rf_set_g _ (by omega) _ | exact rf_set_h _ (by omega) _ | exact rf_set_b _ _ | exact cx_set_pc _ _ | exact cx_set_r _ (by omega) _ | rfl) ?_))
     | ((refine z_sti 5 rfl rfl ?_; refine o_store5 rfl tabOk rfl rfl rfl rfl rfl (by first | exact rf_g _ (by omega) | exact rf_h _ (by omega) | exact rf_b _ | exact cx_pc _ | exact cx_r _ (by omega) | rfl) (by first | exact rf_set_g _ (by omega) _ | exact rf_set_h _ (by omega) _ | exact rf_set_b _ _ | exact cx_set_pc _ _ | exact cx_set_r _ (by omega) _ | rfl) ?_))
     | ((refine z_sti 6 rfl rfl ?_; refine o_store6 rfl tabOk rfl rfl rfl rfl rfl (by first | exact rf_g _ (by omega) | exact rf_h _ (by omega) | exact rf_b _ | exact cx_pc _ | exact cx_r _ (by omega) | rfl) (by first | exact rf_set_g _ (by omega) _ | exact rf_set_h _ (by omega) _ | exact rf_set_b _ _ | exact cx_set_pc _ _ | exact cx_set_r _ (by omega) _ | rfl) ?_))))
     | (refine z_ispick ?_; first
     | (refine o_pick1 rfl (by first | with_reducible rfl | with_reducible assumption | ((with_reducible refine decide_eq_true ?_); first | with_reducible rfl | with_reducible assumption | omega)) rfl (by decide) ?_)
     | (refine o_pick0 rfl (by first | with_reducible rfl | with_reducible assumption | ((with_reducible refine decide_eq_false ?_); first | with_reducible assumption | omega)) rfl (by decide) ?_)
     | (refine o_pick1 rfl (by first | (simp only [Bool.not_eq_true', decide_eq_false_iff_not]; omega) | (with_reducible assumption) | (rw [decide_eq_false] <;> (first | omega | with_reducible rfl)) | (rw [decide_eq_true] <;> (first | omega | with_reducible rfl)) | (simp; done) | (simp; omega)) rfl (by decide) ?_)
     | (refine o_pick0 rfl (by first | (simp only [Bool.not_eq_false', decide_eq_true_eq]; omega) | (with_reducible assumption) | (rw [decide_eq_false] <;> (first | omega | with_reducible rfl)) | (rw [decide_eq_true] <;> (first | omega | with_reducible rfl)) | (simp; done) | (simp; omega)) rfl (by decide) ?_))
     | (refine z_isix ?_; first
     | refine o_index0 tabOk rfl rfl rfl rfl (by omega) (by omega) (by decide) ?_
     | refine o_index1 tabOk rfl rfl rfl rfl (by omega) (by omega) (by decide) ?_
     | refine o_indexsk tabOk rfl rfl rfl rfl (by omega) (by omega) (by decide) ?_
     | refine o_indexs1 tabOk (by first | assumption) rfl rfl rfl rfl (by omega) (by omega) (by decide) ?_)
     | refine o_move rfl (by decide) ?_
     | refine o_assign rfl (by decide) ?_
     | refine o_nil rfl (by decide) ?_
     | refine o_extract rfl rfl (by decide) ?_
     | refine o_not rfl (by decide) ?_
     | refine o_field0 tabOk rfl rfl rfl rfl rfl (by decide) ?_
     | refine o_field tabOk rfl rfl rfl rfl rfl (by decide) ?_
     | refine o_conv tabOk rfl rfl rfl (by decide) ?_))
  · rw [if_neg h, if_neg h]
    repeat' (first
     | (refine s_is ?_; first
     | (refine s_isret ?_; first
     | exact f_r1 rfl (res_t rfl) () trivial rfl (fun w h => h))
     | (refine s_isw ?_; first
     | refine c_seq ?_
     | refine c_block ?_
     | refine c_region ?_
     | refine c_mixed mixed (by kernel_rfl) ?_
     | refine c_skip ?_
     | refine c_ret ?_
     | refine c_exit ?_
     | (refine s_iscond ?_; first
     | (refine c_true rfl (by first | with_reducible rfl | with_reducible assumption | ((with_reducible refine decide_eq_true ?_); first | with_reducible rfl | with_reducible assumption | omega)) ?_)
     | (refine c_false rfl (by first | with_reducible rfl | with_reducible assumption | ((with_reducible refine decide_eq_false ?_); first | with_reducible assumption | omega)) ?_)
     | (refine c_true rfl (by first | (simp only [Bool.not_eq_true', decide_eq_false_iff_not]; omega) | (with_reducible assumption) | (rw [decide_eq_false] <;> (first | omega | with_reducible rfl)) | (rw [decide_eq_true] <;> (first | omega | with_reducible rfl)) | (simp; done) | (simp; omega)) ?_)
     | (refine c_false rfl (by first | (simp only [Bool.not_eq_false', decide_eq_true_eq]; omega) | (with_reducible assumption) | (rw [decide_eq_false] <;> (first | omega | with_reducible rfl)) | (rw [decide_eq_true] <;> (first | omega | with_reducible rfl)) | (simp; done) | (simp; omega)) ?_)
     | refine c_cond rfl (fun hc => ?_) (fun hc => ?_)
     | refine c_condb rfl (fun hc => ?_) (fun hc => ?_)))
     | refine x_then ?_
     | refine x_then_ret ?_
     | refine x_then_exit ?_
     | refine x_block _ ?_
     | refine x_block_ret _ ?_
     | refine x_block_exit _ ?_
     | refine x_block_past (by decide) ?_
     | refine z_tailm ?_)
     | (refine z_isg0 ?_; first
     | refine z_skipu (by decide) rfl rfl ?_
     | (refine z_want0 rfl rfl (by first | with_reducible rfl | with_reducible assumption | ((with_reducible refine decide_eq_false ?_); first | with_reducible assumption | omega)) ?_)
     | (refine z_skip0 (by decide) rfl rfl (by first | with_reducible rfl | with_reducible assumption | ((with_reducible refine decide_eq_true ?_); first | with_reducible rfl | with_reducible assumption | omega)) ?_)
     | (refine z_want0 rfl rfl (by first | (simp only [Bool.not_eq_false', decide_eq_true_eq]; omega) | (with_reducible assumption) | (rw [decide_eq_false] <;> (first | omega | with_reducible rfl)) | (rw [decide_eq_true] <;> (first | omega | with_reducible rfl)) | (simp; done) | (simp; omega)) ?_)
     | (refine z_skip0 (by decide) rfl rfl (by first | (simp only [Bool.not_eq_true', decide_eq_false_iff_not]; omega) | (with_reducible assumption) | (rw [decide_eq_false] <;> (first | omega | with_reducible rfl)) | (rw [decide_eq_true] <;> (first | omega | with_reducible rfl)) | (simp; done) | (simp; omega)) ?_)
     | refine z_guard0 (by decide) rfl rfl (fun hc => ?_) (fun hc => ?_)
     | refine z_guardb (by decide) rfl rfl (fun hc => ?_) (fun hc => ?_))
     | (refine z_isnil ?_; first
     | refine z_keep1 ?_
     | refine z_list ?_
     | refine z_mixed ?_
     | refine z_mono0 ?_
     | refine z_mono1 (by decide) fun g => ?_
     | refine z_mono2 (by decide) (by decide) fun g g' => ?_
     | refine z_mixedx ?_
     | refine z_quiet ?_)
     | (refine z_isop ?_; first
     | refine o_boxa rfl rfl (by decide) fun g => ?_
     | refine o_alloca (e := 26) (vs := Cx.zero.cs) rfl (by kernel_rfl) (by decide) fun g => ?_
     | refine o_build (t := 26) (v := .agg Cx.zero.cs.toArray) rfl (fun _ => by kernel_rfl) (by decide) ?_
     | refine o_build (t := 32) (v := .agg (boCs fun _ => false).toArray) rfl (fun _ => by kernel_rfl) (by decide) ?_
     | (refine z_isbin ?_; first
     | (refine z_isb .lss ?_; first
     | refine o_lt rfl rfl (by decide) ?_)
     | (refine z_isb .gtr ?_; first
     | refine o_gt rfl rfl (by decide) ?_))
     | (refine z_isstore ?_; first
     | (refine o_storew_at rfl 0 tabOk rfl rfl rfl rfl (cx_len _) (cx_one _) (by rw [rf_len, cx_len]; decide) (rf_set_c _ _) ?_)
     | (refine o_storew_at rfl 1 tabOk rfl rfl rfl rfl (cx_len _) (cx_one _) (by rw [rf_len, cx_len]; decide) (rf_set_c _ _) ?_)
     | (refine o_storew_at rfl 2 tabOk rfl rfl rfl rfl (cx_len _) (cx_one _) (by rw [rf_len, cx_len]; decide) (rf_set_c _ _) ?_)
     | (refine o_storew_at rfl 2 tabOk rfl rfl rfl rfl (bo_len _) (bo_one _) (by rw [rf_len, bo_len]; decide) (rf_set_gs _ _) ?_)
     | refine o_storebk 0 tabOk rfl rfl rfl rfl (by first | exact rf_len _ | exact cx_len _ | exact bo_len _ | (simp only [rf_len, cx_len, bo_len]) | rfl) (by first | exact rf_one _ | exact cx_one _ | exact bo_one _ | rfl) (by first | exact rf_len _ | exact cx_len _ | exact bo_len _ | (simp only [rf_len, cx_len, bo_len]) | rfl) ?_
     | (refine z_stw rfl ?_; first
     | ((refine z_sti 0 rfl rfl ?_; refine o_storeb0 rfl tabOk rfl rfl rfl (by first | exact rf_len _ | exact cx_len _ | exact bo_len _ | (simp only [rf_len, cx_len, bo_len]) | rfl) (by first | exact rf_one _ | exact cx_one _ | exact bo_one _ | rfl) (by first | exact rf_len _ | exact cx_len _ | exact bo_len _ | (simp only [rf_len, cx_len, bo_len]) | rfl) ?_))
     | ((refine z_sti 1 rfl rfl ?_; refine o_storeb1 rfl tabOk rfl rfl rfl (by first | exact rf_len _ | exact cx_len _ | exact bo_len _ | (simp only [rf_len, cx_len, bo_len]) | rfl) (by first | exact rf_one _ | exact cx_one _ | exact bo_one _ | rfl) (by first | exact rf_len _ | exact cx_len _ | exact bo_len _ | (simp only [rf_len, cx_len, bo_len]) | rfl) ?_))
     | ((refine z_sti 2 rfl rfl ?_; refine o_storeb2 rfl tabOk rfl rfl rfl (by first | exact rf_len _ | exact cx_len _ | exact bo_len _ | (simp only [rf_len, cx_len, bo_len]) | rfl) (by first | exact rf_one _ | exact cx_one _ | exact bo_one _ | rfl) (by first | exact rf_len _ | exact cx_len _ | exact bo_len _ | (simp only [rf_len, cx_len, bo_len]) | rfl) ?_))
     | ((refine z_sti 3 rfl rfl ?_; refine o_storeb3 rfl tabOk rfl rfl rfl (by first | exact rf_len _ | exact cx_len _ | exact bo_len _ | (simp only [rf_len, cx_len, bo_len]) | rfl) (by first | exact rf_one _ | exact cx_one _ | exact bo_one _ | rfl) (by first | exact rf_len _ | exact cx_len _ | exact bo_len _ | (simp only [rf_len, cx_len, bo_len]) | rfl) ?_))
     | ((refine z_sti 4 rfl rfl ?_; refine o_storeb4 rfl tabOk rfl rfl rfl (by first | exact rf_len _ | exact cx_len _ | exact bo_len _ | (simp only [rf_len, cx_len, bo_len]) | rfl) (by first | exact rf_one _ | exact cx_one _ | exact bo_one _ | rfl) (by first | exact rf_len _ | exact cx_len _ | exact bo_len _ | (simp only [rf_len, cx_len, bo_len]) | rfl) ?_))
     | ((refine z_sti 5 rfl rfl ?_; refine o_storeb5 rfl tabOk rfl rfl rfl (by first | exact rf_len _ | exact cx_len _ | exact bo_len _ | (simp only [rf_len, cx_len, bo_len]) | rfl) (by first | exact rf_one _ | exact cx_one _ | exact bo_one _ | rfl) (by first | exact rf_len _ | exact cx_len _ | exact bo_len _ | (simp only [rf_len, cx_len, bo_len]) | rfl) ?_))
     | ((refine z_sti 6 rfl rfl ?_; refine o_storeb6 rfl tabOk rfl rfl rfl (by first | exact rf_len _ | exact cx_len _ | exact bo_len _ | (simp only [rf_len, cx_len, bo_len]) | rfl) (by first | exact rf_one _ | exact cx_one _ | exact bo_one _ | rfl) (by first | exact rf_len _ | exact cx_len _ | exact bo_len _ | (simp only [rf_len, cx_len, bo_len]) | rfl) ?_)))
     | (refine z_st1 rfl rfl ?_; first
     | refine o_store rfl tabOk rfl rfl rfl rfl rfl (by first | exact rf_g _ (by omega) | exact rf_h _ (by omega) | exact rf_b _ | exact cx_pc _ | exact cx_r _ (by omega) | rfl) (by first | exact rf_set_g _ (by omega) _ | exact rf_set_h _ (by omega) _ | exact rf_set_b _ _ | exact cx_set_pc _ _ | exact cx_set_r _ (by omega) _ | rfl) ?_
     | ((refine z_sti 1 rfl rfl ?_; refine o_store1 rfl tabOk rfl rfl rfl rfl rfl (by first | exact rf_g _ (by omega) | exact rf_h _ (by omega) | exact rf_b _ | exact cx_pc _ | exact cx_r _ (by omega) | rfl) (by first | exact rf_set_g _ (by omega) _ | exact rf_set_h _ (by omega) _ | exact rf_set_b _ _ | exact cx_set_pc _ _ | exact cx_set_r _ (by omega) _ | rfl) ?_))
     | ((refine z_sti 2 rfl rfl ?_; refine o_store2 rfl tabOk rfl rfl rfl rfl rfl (by first | exact rf_g _ (by omega) | exact rf_h _ (by omega) | exact rf_b _ | exact cx_pc _ | exact cx_r _ (by omega) | rfl) (by first | exact rf_set_g _ (by omega) _ | exact rf_set_h _ (by omega) _ | exact rf_set_b _ _ | exact cx_set_pc _ _ | exact cx_set_r _ (by omega) _ | rfl) ?_))
     | ((refine z_sti 3 rfl rfl ?_; refine o_store3 rfl tabOk rfl rfl rfl rfl rfl (by first | exact rf_g _ (by omega) | exact rf_h _ (by omega) | exact rf_b _ | exact cx_pc _ | exact cx_r _ (by omega) | rfl) (by first | exact rf_set_g _ (by omega) _ | exact rf_set_h _ (by omega) _ | exact rf_set_b _ _ | exact cx_set_pc _ _ | exact cx_set_r _ (by omega) _ | rfl) ?_))
     | ((refine z_sti 4 rfl rfl ?_; refine o_store4 rfl tabOk rfl rfl rfl rfl rfl (by first | exact rf_g _ (by omega) | exact rf_h _ (by omega) | exact rf_b _ | exact cx_pc _ | exact cx_r _ (by omega) | rfl) (by first | exact rf_set_g _ (by omega) _ | exact rf_set_h _ (by omega) _ | exact rf_set_b _ _ | exact cx_set_pc _ _ | exact cx_set_r _ (by omega) _ | rfl) ?_))
     | ((refine z_sti 5 rfl rfl ?_; refine o_store5 rfl tabOk rfl rfl rfl rfl rfl (by first | exact rf_g _ (by omega) | exact rf_h _ (by omega) | exact rf_b _ | exact cx_pc _ | exact cx_r _ (by omega) | rfl) (by first | exact rf_set_g _ (by omega) _ | exact rf_set_h _ (by omega) _ | exact rf_set_b _ _ | exact cx_set_pc _ _ | exact cx_set_r _ (by omega) _ | rfl) ?_))
     | ((refine z_sti 6 rfl rfl ?_; refine o_store6 rfl tabOk rfl rfl rfl rfl rfl (by first | exact rf_g _ (by omega) | exact rf_h _ (by omega) | exact rf_b _ | exact cx_pc _ | exact cx_r _ (by omega) | rfl) (by first | exact rf_set_g _ (by omega) _ | exact rf_set_h _ (by omega) _ | exact rf_set_b _ _ | exact cx_set_pc _ _ | exact cx_set_r _ (by omega) _ | rfl) ?_))))
     | (refine z_ispick ?_; first
     | (refine o_pick1 rfl (by first | with_reducible rfl | with_reducible assumption | ((with_reducible refine decide_eq_true ?_); first | with_reducible rfl | with_reducible assumption | omega)) rfl (by decide) ?_)
     | (refine o_pick0 rfl (by first | with_reducible rfl | with_reducible assumption | ((with_reducible refine decide_eq_false ?_); first | with_reducible assumption | omega)) rfl (by decide) ?_)
     | (refine o_pick1 rfl (by first | (simp only [Bool.not_eq_true', decide_eq_false_iff_not]; omega) | (with_reducible assumption) | (rw [decide_eq_false] <;> (first | omega | with_reducible rfl)) | (rw [decide_eq_true] <;> (first | omega | with_reducible rfl)) | (simp; done) | (simp; omega)) rfl (by decide) ?_)
     | (refine o_pick0 rfl (by first | (simp only [Bool.not_eq_false', decide_eq_true_eq]; omega) | (with_reducible assumption) | (rw [decide_eq_false] <;> (first | omega | with_reducible rfl)) | (rw [decide_eq_true] <;> (first | omega | with_reducible rfl)) | (simp; done) | (simp; omega)) rfl (by decide) ?_))
     | (refine z_isix ?_; first
     | refine o_index0 tabOk rfl rfl rfl rfl (by omega) (by omega) (by decide) ?_
     | refine o_index1 tabOk rfl rfl rfl rfl (by omega) (by omega) (by decide) ?_
     | refine o_indexsk tabOk rfl rfl rfl rfl (by omega) (by omega) (by decide) ?_
     | refine o_indexs1 tabOk (by first | assumption) rfl rfl rfl rfl (by omega) (by omega) (by decide) ?_)
     | refine o_move rfl (by decide) ?_
     | refine o_assign rfl (by decide) ?_
     | refine o_nil rfl (by decide) ?_
     | refine o_extract rfl rfl (by decide) ?_
     | refine o_not rfl (by decide) ?_
     | refine o_field0 tabOk rfl rfl rfl rfl rfl (by decide) ?_
     | refine o_field tabOk rfl rfl rfl rfl rfl (by decide) ?_
     | refine o_conv tabOk rfl rfl rfl (by decide) ?_))
theorem rset_yes (b : Nat) (r : Rf) (i a : Int) (h : 2 ≤ i ∧ i ≤ 8) (h0 : 0 ≤ a) (h4 : a % 4 = 0) : Does Tryd.prog 15 [.pointer (some ⟨b, 0, none⟩), .int .i64 i, .int .u32 a] [cells b 34 r.cs] (fun _ : Unit => True) (fun _ => .tuple #[.int .u32 (r.h i.toNat), .int .i64 0]) (fun _ => [cells b 34 ({ r with h := upd r.h i.toNat a } : Rf).cs]) := by
  intro w hw
  refine f_enter Tryd.func15 rfl Tryd.ntmps15 rfl hw ?_
  repeat' (first
   | (refine s_is ?_; first
   | (refine s_isret ?_; first
   | exact f_r2 rfl (res_t rfl) (res_t rfl) () trivial rfl (fun w h => h))
   | (refine s_isw ?_; first
   | refine c_seq ?_
   | refine c_block ?_
   | refine c_region ?_
   | refine c_mixed mixed (by kernel_rfl) ?_
   | refine c_skip ?_
   | refine c_ret ?_
   | refine c_exit ?_
   | (refine s_iscond ?_; first
   | (refine c_true rfl (by first | with_reducible rfl | with_reducible assumption | ((with_reducible refine decide_eq_true ?_); first | with_reducible rfl | with_reducible assumption | omega)) ?_)
   | (refine c_false rfl (by first | with_reducible rfl | with_reducible assumption | ((with_reducible refine decide_eq_false ?_); first | with_reducible assumption | omega)) ?_)
   | (refine c_true rfl (by first | (simp only [Bool.not_eq_true', decide_eq_false_iff_not]; omega) | (with_reducible assumption) | (rw [decide_eq_false] <;> (first | omega | with_reducible rfl)) | (rw [decide_eq_true] <;> (first | omega | with_reducible rfl)) | (simp; done) | (simp; omega)) ?_)
   | (refine c_false rfl (by first | (simp only [Bool.not_eq_false', decide_eq_true_eq]; omega) | (with_reducible assumption) | (rw [decide_eq_false] <;> (first | omega | with_reducible rfl)) | (rw [decide_eq_true] <;> (first | omega | with_reducible rfl)) | (simp; done) | (simp; omega)) ?_)
   | refine c_cond rfl (fun hc => ?_) (fun hc => ?_)
   | refine c_condb rfl (fun hc => ?_) (fun hc => ?_)))
   | refine x_then ?_
   | refine x_then_ret ?_
   | refine x_then_exit ?_
   | refine x_block _ ?_
   | refine x_block_ret _ ?_
   | refine x_block_exit _ ?_
   | refine x_block_past (by decide) ?_
   | refine z_tailm ?_)
   | (refine z_isg0 ?_; first
   | refine z_skipu (by decide) rfl rfl ?_
   | (refine z_want0 rfl rfl (by first | with_reducible rfl | with_reducible assumption | ((with_reducible refine decide_eq_false ?_); first | with_reducible assumption | omega)) ?_)
   | (refine z_skip0 (by decide) rfl rfl (by first | with_reducible rfl | with_reducible assumption | ((with_reducible refine decide_eq_true ?_); first | with_reducible rfl | with_reducible assumption | omega)) ?_)
   | (refine z_want0 rfl rfl (by first | (simp only [Bool.not_eq_false', decide_eq_true_eq]; omega) | (with_reducible assumption) | (rw [decide_eq_false] <;> (first | omega | with_reducible rfl)) | (rw [decide_eq_true] <;> (first | omega | with_reducible rfl)) | (simp; done) | (simp; omega)) ?_)
   | (refine z_skip0 (by decide) rfl rfl (by first | (simp only [Bool.not_eq_true', decide_eq_false_iff_not]; omega) | (with_reducible assumption) | (rw [decide_eq_false] <;> (first | omega | with_reducible rfl)) | (rw [decide_eq_true] <;> (first | omega | with_reducible rfl)) | (simp; done) | (simp; omega)) ?_)
   | refine z_guard0 (by decide) rfl rfl (fun hc => ?_) (fun hc => ?_)
   | refine z_guardb (by decide) rfl rfl (fun hc => ?_) (fun hc => ?_))
   | (refine z_isnil ?_; first
   | refine z_keep1 ?_
   | refine z_list ?_
   | refine z_mixed ?_
   | refine z_mono0 ?_
   | refine z_mono1 (by decide) fun g => ?_
   | refine z_mono2 (by decide) (by decide) fun g g' => ?_
   | refine z_mixedx ?_
   | refine z_quiet ?_)
   | (refine z_isop ?_; first
   | refine o_boxa rfl rfl (by decide) fun g => ?_
   | refine o_alloca (e := 26) (vs := Cx.zero.cs) rfl (by kernel_rfl) (by decide) fun g => ?_
   | refine o_build (t := 26) (v := .agg Cx.zero.cs.toArray) rfl (fun _ => by kernel_rfl) (by decide) ?_
   | refine o_build (t := 32) (v := .agg (boCs fun _ => false).toArray) rfl (fun _ => by kernel_rfl) (by decide) ?_
   | (refine z_isbin ?_; first
   | (refine z_isb .lss ?_; first
   | refine o_lt rfl rfl (by decide) ?_)
   | (refine z_isb .gtr ?_; first
   | refine o_gt rfl rfl (by decide) ?_)
   | (refine z_isb .rem ?_; first
   | refine o_rem rfl rfl (by omega) (by omega) (by decide) ?_
   | refine o_remk rfl rfl (by omega) (by omega) (by decide) ?_
   | refine o_remt rfl rfl (by omega) (by decide) ?_))
   | (refine z_isload ?_; first
   | refine o_loadp tabOk rfl rfl rfl 0 rfl (cx_len _) (rf_c _) (by decide) ?_
   | refine o_loadp tabOk rfl rfl rfl 1 rfl (cx_len _) (rf_c _) (by decide) ?_
   | refine o_loadp tabOk rfl rfl rfl 2 rfl (cx_len _) (rf_c _) (by decide) ?_
   | (refine z_ld1 tabOk rfl rfl ?_; first
   | refine o_loadm tabOk rfl rfl rfl (by repeat' (first | exact List.mem_cons_self | apply List.mem_cons_of_mem)) (by first | exact rf_g _ (by omega) | exact rf_h _ (by omega) | exact rf_b _ | exact cx_pc _ | exact cx_r _ (by omega) | rfl) (by decide) ?_
   | refine o_loads tabOk (by first | assumption | exact Rds.cons _ (by assumption) | exact Rds.cons _ (Rds.cons _ (by assumption)) | exact own_rds 0 rfl | exact own_rds 1 rfl | exact own_rds 2 rfl) rfl rfl rfl (by first | exact rf_g _ (by omega) | exact rf_h _ (by omega) | exact rf_b _ | exact cx_pc _ | exact cx_r _ (by omega) | rfl) (by decide) ?_)
   | (refine z_ldw tabOk rfl rfl ?_; first
   | refine o_loadwm tabOk rfl rfl rfl (by repeat' (first | exact List.mem_cons_self | apply List.mem_cons_of_mem)) (by first | exact rf_len _ | exact cx_len _ | exact bo_len _ | (simp only [rf_len, cx_len, bo_len]) | rfl) (by decide) ?_))
   | (refine z_isstore ?_; first
   | (refine o_storew_at rfl 0 tabOk rfl rfl rfl rfl (cx_len _) (cx_one _) (by rw [rf_len, cx_len]; decide) (rf_set_c _ _) ?_)
   | (refine o_storew_at rfl 1 tabOk rfl rfl rfl rfl (cx_len _) (cx_one _) (by rw [rf_len, cx_len]; decide) (rf_set_c _ _) ?_)
   | (refine o_storew_at rfl 2 tabOk rfl rfl rfl rfl (cx_len _) (cx_one _) (by rw [rf_len, cx_len]; decide) (rf_set_c _ _) ?_)
   | (refine o_storew_at rfl 2 tabOk rfl rfl rfl rfl (bo_len _) (bo_one _) (by rw [rf_len, bo_len]; decide) (rf_set_gs _ _) ?_)
   | refine o_storebk 0 tabOk rfl rfl rfl rfl (by first | exact rf_len _ | exact cx_len _ | exact bo_len _ | (simp only [rf_len, cx_len, bo_len]) | rfl) (by first | exact rf_one _ | exact cx_one _ | exact bo_one _ | rfl) (by first | exact rf_len _ | exact cx_len _ | exact bo_len _ | (simp only [rf_len, cx_len, bo_len]) | rfl) ?_
   | (refine z_stw rfl ?_; first
   | ((refine z_sti 0 rfl rfl ?_; refine o_storeb0 rfl tabOk rfl rfl rfl (by first | exact rf_len _ | exact cx_len _ | exact bo_len _ | (simp only [rf_len, cx_len, bo_len]) | rfl) (by first | exact rf_one _ | exact cx_one _ | exact bo_one _ | rfl) (by first | exact rf_len _ | exact cx_len _ | exact bo_len _ | (simp only [rf_len, cx_len, bo_len]) | rfl) ?_))
   | ((refine z_sti 1 rfl rfl ?_; refine o_storeb1 rfl tabOk rfl rfl rfl (by first | exact rf_len _ | exact cx_len _ | exact bo_len _ | (simp only [rf_len, cx_len, bo_len]) | rfl) (by first | exact rf_one _ | exact cx_one _ | exact bo_one _ | rfl) (by first | exact rf_len _ | exact cx_len _ | exact bo_len _ | (simp only [rf_len, cx_len, bo_len]) | rfl) ?_))
   | ((refine z_sti 2 rfl rfl ?_; refine o_storeb2 rfl tabOk rfl rfl rfl (by first | exact rf_len _ | exact cx_len _ | exact bo_len _ | (simp only [rf_len, cx_len, bo_len]) | rfl) (by first | exact rf_one _ | exact cx_one _ | exact bo_one _ | rfl) (by first | exact rf_len _ | exact cx_len _ | exact bo_len _ | (simp only [rf_len, cx_len, bo_len]) | rfl) ?_))
   | ((refine z_sti 3 rfl rfl ?_; refine o_storeb3 rfl tabOk rfl rfl rfl (by first | exact rf_len _ | exact cx_len _ | exact bo_len _ | (simp only [rf_len, cx_len, bo_len]) | rfl) (by first | exact rf_one _ | exact cx_one _ | exact bo_one _ | rfl) (by first | exact rf_len _ | exact cx_len _ | exact bo_len _ | (simp only [rf_len, cx_len, bo_len]) | rfl) ?_))
   | ((refine z_sti 4 rfl rfl ?_; refine o_storeb4 rfl tabOk rfl rfl rfl (by first | exact rf_len _ | exact cx_len _ | exact bo_len _ | (simp only [rf_len, cx_len, bo_len]) | rfl) (by first | exact rf_one _ | exact cx_one _ | exact bo_one _ | rfl) (by first | exact rf_len _ | exact cx_len _ | exact bo_len _ | (simp only [rf_len, cx_len, bo_len]) | rfl) ?_))
   | ((refine z_sti 5 rfl rfl ?_; refine o_storeb5 rfl tabOk rfl rfl rfl (by first | exact rf_len _ | exact cx_len _ | exact bo_len _ | (simp only [rf_len, cx_len, bo_len]) | rfl) (by first | exact rf_one _ | exact cx_one _ | exact bo_one _ | rfl) (by first | exact rf_len _ | exact cx_len _ | exact bo_len _ | (simp only [rf_len, cx_len, bo_len]) | rfl) ?_))
   | ((refine z_sti 6 rfl rfl ?_; refine o_storeb6 rfl tabOk rfl rfl rfl (by first | exact rf_len _ | exact cx_len _ | exact bo_len _ | (simp only [rf_len, cx_len, bo_len]) | rfl) (by first | exact rf_one _ | exact cx_one _ | exact bo_one _ | rfl) (by first | exact rf_len _ | exact cx_len _ | exact bo_len _ | (simp only [rf_len, cx_len, bo_len]) | rfl) ?_)))
   | (refine z_st1 rfl rfl ?_; first
   | refine o_store rfl tabOk rfl rfl rfl rfl rfl (by first | exact rf_g _ (by omega) | exact rf_h _ (by omega) | exact rf_b _ | exact cx_pc _ | exact cx_r _ (by omega) | rfl) (by first | exact rf_set_g _ (by omega) _ | exact rf_set_h _ (by omega) _ | exact rf_set_b _ _ | exact cx_set_pc _ _ | exact cx_set_r _ (by omega) _ | rfl) ?_
   | ((refine z_sti 1 rfl rfl ?_; refine o_store1 rfl tabOk rfl rfl rfl rfl rfl (by first | exact rf_g _ (by omega) | exact rf_h _ (by omega) | exact rf_b _ | exact cx_pc _ | exact cx_r _ (by omega) | rfl) (by first | exact rf_set_g _ (by omega) _ | exact rf_set_h _ (by omega) _ | exact rf_set_b _ _ | exact cx_set_pc _ _ | exact cx_set_r _ (by omega) _ | rfl) ?_))
   | ((refine z_sti 2 rfl rfl ?_; refine o_store2 rfl tabOk rfl rfl rfl rfl rfl (by first | exact rf_g _ (by omega) | exact rf_h _ (by omega) | exact rf_b _ | exact cx_pc _ | exact cx_r _ (by omega) | rfl) (by first | exact rf_set_g _ (by omega) _ | exact rf_set_h _ (by omega) _ | exact rf_set_b _ _ | exact cx_set_pc _ _ | exact cx_set_r _ (by omega) _ | rfl) ?_))
   | ((refine z_sti 3 rfl rfl ?_; refine o_store3 rfl tabOk rfl rfl rfl rfl rfl (by first | exact rf_g _ (by omega) | exact rf_h _ (by omega) | exact rf_b _ | exact cx_pc _ | exact cx_r _ (by omega) | rfl) (by first | exact rf_set_g _ (by omega) _ | exact rf_set_h _ (by omega) _ | exact rf_set_b _ _ | exact cx_set_pc _ _ | exact cx_set_r _ (by omega) _ | rfl) ?_))
   | ((refine z_sti 4 rfl rfl ?_; refine o_store4 rfl tabOk rfl rfl rfl rfl rfl (by first | exact rf_g _ (by omega) | exact rf_h _ (by omega) | exact rf_b _ | exact cx_pc _ | exact cx_r _ (by omega) | rfl) (by first | exact rf_set_g _ (by omega) _ | exact rf_set_h _ (by omega) _ | exact rf_set_b _ _ | exact cx_set_pc _ _ | exact cx_set_r _ (by omega) _ | rfl) ?_))
   | ((refine z_sti 5 rfl rfl ?_; refine o_store5 rfl tabOk rfl rfl rfl rfl rfl (by first | exact rf_g _ (by omega) | exact rf_h _ (by omega) | exact rf_b _ | exact cx_pc _ | exact cx_r _ (by omega) | rfl) (by first | exact rf_set_g _ (by omega) _ | exact rf_set_h _ (by omega) _ | exact rf_set_b _ _ | exact cx_set_pc _ _ | exact cx_set_r _ (by omega) _ | rfl) ?_))
   | ((refine z_sti 6 rfl rfl ?_; refine o_store6 rfl tabOk rfl rfl rfl rfl rfl (by first | exact rf_g _ (by omega) | exact rf_h _ (by omega) | exact rf_b _ | exact cx_pc _ | exact cx_r _ (by omega) | rfl) (by first | exact rf_set_g _ (by omega) _ | exact rf_set_h _ (by omega) _ | exact rf_set_b _ _ | exact cx_set_pc _ _ | exact cx_set_r _ (by omega) _ | rfl) ?_))))
   | (refine z_ispick ?_; first
   | (refine o_pick1 rfl (by first | with_reducible rfl | with_reducible assumption | ((with_reducible refine decide_eq_true ?_); first | with_reducible rfl | with_reducible assumption | omega)) rfl (by decide) ?_)
   | (refine o_pick0 rfl (by first | with_reducible rfl | with_reducible assumption | ((with_reducible refine decide_eq_false ?_); first | with_reducible assumption | omega)) rfl (by decide) ?_)
   | (refine o_pick1 rfl (by first | (simp only [Bool.not_eq_true', decide_eq_false_iff_not]; omega) | (with_reducible assumption) | (rw [decide_eq_false] <;> (first | omega | with_reducible rfl)) | (rw [decide_eq_true] <;> (first | omega | with_reducible rfl)) | (simp; done) | (simp; omega)) rfl (by decide) ?_)
   | (refine o_pick0 rfl (by first | (simp only [Bool.not_eq_false', decide_eq_true_eq]; omega) | (with_reducible assumption) | (rw [decide_eq_false] <;> (first | omega | with_reducible rfl)) | (rw [decide_eq_true] <;> (first | omega | with_reducible rfl)) | (simp; done) | (simp; omega)) rfl (by decide) ?_))
   | (refine z_isix ?_; first
   | refine o_index0 tabOk rfl rfl rfl rfl (by omega) (by omega) (by decide) ?_
   | refine o_index1 tabOk rfl rfl rfl rfl (by omega) (by omega) (by decide) ?_
   | refine o_indexsk tabOk rfl rfl rfl rfl (by omega) (by omega) (by decide) ?_
   | refine o_indexs1 tabOk (by first | assumption) rfl rfl rfl rfl (by omega) (by omega) (by decide) ?_)
   | refine o_move rfl (by decide) ?_
   | refine o_assign rfl (by decide) ?_
   | refine o_nil rfl (by decide) ?_
   | refine o_extract rfl rfl (by decide) ?_
   | refine o_not rfl (by decide) ?_
   | refine o_field0 tabOk rfl rfl rfl rfl rfl (by decide) ?_
   | refine o_field tabOk rfl rfl rfl rfl rfl (by decide) ?_
   | refine o_conv tabOk rfl rfl rfl (by decide) ?_))
theorem rset_no (b : Nat) (r : Rf) (i a : Int) (h0 : 0 ≤ a) (h : ¬ (2 ≤ i ∧ i ≤ 8 ∧ a % 4 = 0)) : Does Tryd.prog 15 [.pointer (some ⟨b, 0, none⟩), .int .i64 i, .int .u32 a] [cells b 34 r.cs] (fun _ : Unit => True) (fun _ => .tuple #[.int .u32 0, .int .i64 1]) (fun _ => [cells b 34 r.cs]) := by
  intro w hw
  refine f_enter Tryd.func15 rfl Tryd.ntmps15 rfl hw ?_
  by_cases h2 : 2 ≤ i ∧ i ≤ 8
  · have h4 : 0 < a % 4 := by omega
    repeat' (first
     | (refine s_is ?_; first
     | (refine s_isret ?_; first
     | exact f_r2 rfl (res_t rfl) (res_t rfl) () trivial rfl (fun w h => h))
     | (refine s_isw ?_; first
     | refine c_seq ?_
     | refine c_block ?_
     | refine c_region ?_
     | refine c_mixed mixed (by kernel_rfl) ?_
     | refine c_skip ?_
     | refine c_ret ?_
     | refine c_exit ?_
     | (refine s_iscond ?_; first
     | (refine c_true rfl (by first | with_reducible rfl | with_reducible assumption | ((with_reducible refine decide_eq_true ?_); first | with_reducible rfl | with_reducible assumption | omega)) ?_)
     | (refine c_false rfl (by first | with_reducible rfl | with_reducible assumption | ((with_reducible refine decide_eq_false ?_); first | with_reducible assumption | omega)) ?_)
     | (refine c_true rfl (by first | (simp only [Bool.not_eq_true', decide_eq_false_iff_not]; omega) | (with_reducible assumption) | (rw [decide_eq_false] <;> (first | omega | with_reducible rfl)) | (rw [decide_eq_true] <;> (first | omega | with_reducible rfl)) | (simp; done) | (simp; omega)) ?_)
     | (refine c_false rfl (by first | (simp only [Bool.not_eq_false', decide_eq_true_eq]; omega) | (with_reducible assumption) | (rw [decide_eq_false] <;> (first | omega | with_reducible rfl)) | (rw [decide_eq_true] <;> (first | omega | with_reducible rfl)) | (simp; done) | (simp; omega)) ?_)
     | refine c_cond rfl (fun hc => ?_) (fun hc => ?_)
     | refine c_condb rfl (fun hc => ?_) (fun hc => ?_)))
     | refine x_then ?_
     | refine x_then_ret ?_
     | refine x_then_exit ?_
     | refine x_block _ ?_
     | refine x_block_ret _ ?_
     | refine x_block_exit _ ?_
     | refine x_block_past (by decide) ?_
     | refine z_tailm ?_)
     | (refine z_isg0 ?_; first
     | refine z_skipu (by decide) rfl rfl ?_
     | (refine z_want0 rfl rfl (by first | with_reducible rfl | with_reducible assumption | ((with_reducible refine decide_eq_false ?_); first | with_reducible assumption | omega)) ?_)
     | (refine z_skip0 (by decide) rfl rfl (by first | with_reducible rfl | with_reducible assumption | ((with_reducible refine decide_eq_true ?_); first | with_reducible rfl | with_reducible assumption | omega)) ?_)
     | (refine z_want0 rfl rfl (by first | (simp only [Bool.not_eq_false', decide_eq_true_eq]; omega) | (with_reducible assumption) | (rw [decide_eq_false] <;> (first | omega | with_reducible rfl)) | (rw [decide_eq_true] <;> (first | omega | with_reducible rfl)) | (simp; done) | (simp; omega)) ?_)
     | (refine z_skip0 (by decide) rfl rfl (by first | (simp only [Bool.not_eq_true', decide_eq_false_iff_not]; omega) | (with_reducible assumption) | (rw [decide_eq_false] <;> (first | omega | with_reducible rfl)) | (rw [decide_eq_true] <;> (first | omega | with_reducible rfl)) | (simp; done) | (simp; omega)) ?_)
     | refine z_guard0 (by decide) rfl rfl (fun hc => ?_) (fun hc => ?_)
     | refine z_guardb (by decide) rfl rfl (fun hc => ?_) (fun hc => ?_))
     | (refine z_isnil ?_; first
     | refine z_keep1 ?_
     | refine z_list ?_
     | refine z_mixed ?_
     | refine z_mono0 ?_
     | refine z_mono1 (by decide) fun g => ?_
     | refine z_mono2 (by decide) (by decide) fun g g' => ?_
     | refine z_mixedx ?_
     | refine z_quiet ?_)
     | (refine z_isop ?_; first
     | refine o_boxa rfl rfl (by decide) fun g => ?_
     | refine o_alloca (e := 26) (vs := Cx.zero.cs) rfl (by kernel_rfl) (by decide) fun g => ?_
     | refine o_build (t := 26) (v := .agg Cx.zero.cs.toArray) rfl (fun _ => by kernel_rfl) (by decide) ?_
     | refine o_build (t := 32) (v := .agg (boCs fun _ => false).toArray) rfl (fun _ => by kernel_rfl) (by decide) ?_
     | (refine z_isbin ?_; first
     | (refine z_isb .lss ?_; first
     | refine o_lt rfl rfl (by decide) ?_)
     | (refine z_isb .gtr ?_; first
     | refine o_gt rfl rfl (by decide) ?_)
     | (refine z_isb .rem ?_; first
     | refine o_rem rfl rfl (by omega) (by omega) (by decide) ?_
     | refine o_remk rfl rfl (by omega) (by omega) (by decide) ?_
     | refine o_remt rfl rfl (by omega) (by decide) ?_))
     | (refine z_isload ?_; first
     | refine o_loadp tabOk rfl rfl rfl 0 rfl (cx_len _) (rf_c _) (by decide) ?_
     | refine o_loadp tabOk rfl rfl rfl 1 rfl (cx_len _) (rf_c _) (by decide) ?_
     | refine o_loadp tabOk rfl rfl rfl 2 rfl (cx_len _) (rf_c _) (by decide) ?_
     | (refine z_ld1 tabOk rfl rfl ?_; first
     | refine o_loadm tabOk rfl rfl rfl (by repeat' (first | exact List.mem_cons_self | apply List.mem_cons_of_mem)) (by first | exact rf_g _ (by omega) | exact rf_h _ (by omega) | exact rf_b _ | exact cx_pc _ | exact cx_r _ (by omega) | rfl) (by decide) ?_
     | refine o_loads tabOk (by first | assumption | exact Rds.cons _ (by assumption) | exact Rds.cons _ (Rds.cons _ (by assumption)) | exact own_rds 0 rfl | exact own_rds 1 rfl | exact own_rds 2 rfl) rfl rfl rfl (by first | exact rf_g _ (by omega) | exact rf_h _ (by omega) | exact rf_b _ | exact cx_pc _ | exact cx_r _ (by omega) | rfl) (by decide) ?_)
     | (refine z_ldw tabOk rfl rfl ?_; first
     | refine o_loadwm tabOk rfl rfl rfl (by repeat' (first | exact List.mem_cons_self | apply List.mem_cons_of_mem)) (by first | exact rf_len _ | exact cx_len _ | exact bo_len _ | (simp only [rf_len, cx_len, bo_len]) | rfl) (by decide) ?_))
     | (refine z_isstore ?_; first
     | (refine o_storew_at rfl 0 tabOk rfl rfl rfl rfl (cx_len _) (cx_one _) (by rw [rf_len, cx_len]; decide) (rf_set_c _ _) ?_)
     | (refine o_storew_at rfl 1 tabOk rfl rfl rfl rfl (cx_len _) (cx_one _) (by rw [rf_len, cx_len]; decide) (rf_set_c _ _) ?_)
     | (refine o_storew_at rfl 2 tabOk rfl rfl rfl rfl (cx_len _) (cx_one _) (by rw [rf_len, cx_len]; decide) (rf_set_c _ _) ?_)
     | (refine o_storew_at rfl 2 tabOk rfl rfl rfl rfl (bo_len _) (bo_one _) (by rw [rf_len, bo_len]; decide) (rf_set_gs _ _) ?_)
     | refine o_storebk 0 tabOk rfl rfl rfl rfl (by first | exact rf_len _ | exact cx_len _ | exact bo_len _ | (simp only [rf_len, cx_len, bo_len]) | rfl) (by first | exact rf_one _ | exact cx_one _ | exact bo_one _ | rfl) (by first | exact rf_len _ | exact cx_len _ | exact bo_len _ | (simp only [rf_len, cx_len, bo_len]) | rfl) ?_
     | (refine z_stw rfl ?_; first
     | ((refine z_sti 0 rfl rfl ?_; refine o_storeb0 rfl tabOk rfl rfl rfl (by first | exact rf_len _ | exact cx_len _ | exact bo_len _ | (simp only [rf_len, cx_len, bo_len]) | rfl) (by first | exact rf_one _ | exact cx_one _ | exact bo_one _ | rfl) (by first | exact rf_len _ | exact cx_len _ | exact bo_len _ | (simp only [rf_len, cx_len, bo_len]) | rfl) ?_))
     | ((refine z_sti 1 rfl rfl ?_; refine o_storeb1 rfl tabOk rfl rfl rfl (by first | exact rf_len _ | exact cx_len _ | exact bo_len _ | (simp only [rf_len, cx_len, bo_len]) | rfl) (by first | exact rf_one _ | exact cx_one _ | exact bo_one _ | rfl) (by first | exact rf_len _ | exact cx_len _ | exact bo_len _ | (simp only [rf_len, cx_len, bo_len]) | rfl) ?_))
     | ((refine z_sti 2 rfl rfl ?_; refine o_storeb2 rfl tabOk rfl rfl rfl (by first | exact rf_len _ | exact cx_len _ | exact bo_len _ | (simp only [rf_len, cx_len, bo_len]) | rfl) (by first | exact rf_one _ | exact cx_one _ | exact bo_one _ | rfl) (by first | exact rf_len _ | exact cx_len _ | exact bo_len _ | (simp only [rf_len, cx_len, bo_len]) | rfl) ?_))
     | ((refine z_sti 3 rfl rfl ?_; refine o_storeb3 rfl tabOk rfl rfl rfl (by first | exact rf_len _ | exact cx_len _ | exact bo_len _ | (simp only [rf_len, cx_len, bo_len]) | rfl) (by first | exact rf_one _ | exact cx_one _ | exact bo_one _ | rfl) (by first | exact rf_len _ | exact cx_len _ | exact bo_len _ | (simp only [rf_len, cx_len, bo_len]) | rfl) ?_))
     | ((refine z_sti 4 rfl rfl ?_; refine o_storeb4 rfl tabOk rfl rfl rfl (by first | exact rf_len _ | exact cx_len _ | exact bo_len _ | (simp only [rf_len, cx_len, bo_len]) | rfl) (by first | exact rf_one _ | exact cx_one _ | exact bo_one _ | rfl) (by first | exact rf_len _ | exact cx_len _ | exact bo_len _ | (simp only [rf_len, cx_len, bo_len]) | rfl) ?_))
     | ((refine z_sti 5 rfl rfl ?_; refine o_storeb5 rfl tabOk rfl rfl rfl (by first | exact rf_len _ | exact cx_len _ | exact bo_len _ | (simp only [rf_len, cx_len, bo_len]) | rfl) (by first | exact rf_one _ | exact cx_one _ | exact bo_one _ | rfl) (by first | exact rf_len _ | exact cx_len _ | exact bo_len _ | (simp only [rf_len, cx_len, bo_len]) | rfl) ?_))
     | ((refine z_sti 6 rfl rfl ?_; refine o_storeb6 rfl tabOk rfl rfl rfl (by first | exact rf_len _ | exact cx_len _ | exact bo_len _ | (simp only [rf_len, cx_len, bo_len]) | rfl) (by first | exact rf_one _ | exact cx_one _ | exact bo_one _ | rfl) (by first | exact rf_len _ | exact cx_len _ | exact bo_len _ | (simp only [rf_len, cx_len, bo_len]) | rfl) ?_)))
     | (refine z_st1 rfl rfl ?_; first
     | refine o_store rfl tabOk rfl rfl rfl rfl rfl (by first | exact rf_g _ (by omega) | exact rf_h _ (by omega) | exact rf_b _ | exact cx_pc _ | exact cx_r _ (by omega) | rfl) (by first | exact rf_set_g _ (by omega) _ | exact rf_set_h _ (by omega) _ | exact rf_set_b _ _ | exact cx_set_pc _ _ | exact cx_set_r _ (by omega) _ | rfl) ?_
     | ((refine z_sti 1 rfl rfl ?_; refine o_store1 rfl tabOk rfl rfl rfl rfl rfl (by first | exact rf_g _ (by omega) | exact rf_h _ (by omega) | exact rf_b _ | exact cx_pc _ | exact cx_r _ (by omega) | rfl) (by first | exact rf_set_g _ (by omega) _ | exact rf_set_h _ (by omega) _ | exact rf_set_b _ _ | exact cx_set_pc _ _ | exact cx_set_r _ (by omega) _ | rfl) ?_))
     | ((refine z_sti 2 rfl rfl ?_; refine o_store2 rfl tabOk rfl rfl rfl rfl rfl (by first | exact rf_g _ (by omega) | exact rf_h _ (by omega) | exact rf_b _ | exact cx_pc _ | exact cx_r _ (by omega) | rfl) (by first | exact rf_set_g _ (by omega) _ | exact rf_set_h _ (by omega) _ | exact rf_set_b _ _ | exact cx_set_pc _ _ | exact cx_set_r _ (by omega) _ | rfl) ?_))
     | ((refine z_sti 3 rfl rfl ?_; refine o_store3 rfl tabOk rfl rfl rfl rfl rfl (by first | exact rf_g _ (by omega) | exact rf_h _ (by omega) | exact rf_b _ | exact cx_pc _ | exact cx_r _ (by omega) | rfl) (by first | exact rf_set_g _ (by omega) _ | exact rf_set_h _ (by omega) _ | exact rf_set_b _ _ | exact cx_set_pc _ _ | exact cx_set_r _ (by omega) _ | rfl) ?_))
     | ((refine z_sti 4 rfl rfl ?_; refine o_store4 rfl tabOk rfl rfl rfl rfl rfl (by first | exact rf_g _ (by omega) | exact rf_h _ (by omega) | exact rf_b _ | exact cx_pc _ | exact cx_r _ (by omega) | rfl) (by first | exact rf_set_g _ (by omega) _ | exact rf_set_h _ (by omega) _ | exact rf_set_b _ _ | exact cx_set_pc _ _ | exact cx_set_r _ (by omega) _ | rfl) ?_))
     | ((refine z_sti 5 rfl rfl ?_; refine o_store5 rfl tabOk rfl rfl rfl rfl rfl (by first | exact rf_g _ (by omega) | exact rf_h _ (by omega) | exact rf_b _ | exact cx_pc _ | exact cx_r _ (by omega) | rfl) (by first | exact rf_set_g _ (by omega) _ | exact rf_set_h _ (by omega) _ | exact rf_set_b _ _ | exact cx_set_pc _ _ | exact cx_set_r _ (by omega) _ | rfl) ?_))
     | ((refine z_sti 6 rfl rfl ?_; refine o_store6 rfl tabOk rfl rfl rfl rfl rfl (by first | exact rf_g _ (by omega) | exact rf_h _ (by omega) | exact rf_b _ | exact cx_pc _ | exact cx_r _ (by omega) | rfl) (by first | exact rf_set_g _ (by omega) _ | exact rf_set_h _ (by omega) _ | exact rf_set_b _ _ | exact cx_set_pc _ _ | exact cx_set_r _ (by omega) _ | rfl) ?_))))
     | (refine z_ispick ?_; first
     | (refine o_pick1 rfl (by first | with_reducible rfl | with_reducible assumption | ((with_reducible refine decide_eq_true ?_); first | with_reducible rfl | with_reducible assumption | omega)) rfl (by decide) ?_)
     | (refine o_pick0 rfl (by first | with_reducible rfl | with_reducible assumption | ((with_reducible refine decide_eq_false ?_); first | with_reducible assumption | omega)) rfl (by decide) ?_)
     | (refine o_pick1 rfl (by first | (simp only [Bool.not_eq_true', decide_eq_false_iff_not]; omega) | (with_reducible assumption) | (rw [decide_eq_false] <;> (first | omega | with_reducible rfl)) | (rw [decide_eq_true] <;> (first | omega | with_reducible rfl)) | (simp; done) | (simp; omega)) rfl (by decide) ?_)
     | (refine o_pick0 rfl (by first | (simp only [Bool.not_eq_false', decide_eq_true_eq]; omega) | (with_reducible assumption) | (rw [decide_eq_false] <;> (first | omega | with_reducible rfl)) | (rw [decide_eq_true] <;> (first | omega | with_reducible rfl)) | (simp; done) | (simp; omega)) rfl (by decide) ?_))
     | (refine z_isix ?_; first
     | refine o_index0 tabOk rfl rfl rfl rfl (by omega) (by omega) (by decide) ?_
     | refine o_index1 tabOk rfl rfl rfl rfl (by omega) (by omega) (by decide) ?_
     | refine o_indexsk tabOk rfl rfl rfl rfl (by omega) (by omega) (by decide) ?_
     | refine o_indexs1 tabOk (by first | assumption) rfl rfl rfl rfl (by omega) (by omega) (by decide) ?_)
     | refine o_move rfl (by decide) ?_
     | refine o_assign rfl (by decide) ?_
     | refine o_nil rfl (by decide) ?_
     | refine o_extract rfl rfl (by decide) ?_
     | refine o_not rfl (by decide) ?_
     | refine o_field0 tabOk rfl rfl rfl rfl rfl (by decide) ?_
     | refine o_field tabOk rfl rfl rfl rfl rfl (by decide) ?_
     | refine o_conv tabOk rfl rfl rfl (by decide) ?_))
  · skip
    repeat' (first
     | (refine s_is ?_; first
     | (refine s_isret ?_; first
     | exact f_r2 rfl (res_t rfl) (res_t rfl) () trivial rfl (fun w h => h))
     | (refine s_isw ?_; first
     | refine c_seq ?_
     | refine c_block ?_
     | refine c_region ?_
     | refine c_mixed mixed (by kernel_rfl) ?_
     | refine c_skip ?_
     | refine c_ret ?_
     | refine c_exit ?_
     | (refine s_iscond ?_; first
     | (refine c_true rfl (by first | with_reducible rfl | with_reducible assumption | ((with_reducible refine decide_eq_true ?_); first | with_reducible rfl | with_reducible assumption | omega)) ?_)
     | (refine c_false rfl (by first | with_reducible rfl | with_reducible assumption | ((with_reducible refine decide_eq_false ?_); first | with_reducible assumption | omega)) ?_)
     | (refine c_true rfl (by first | (simp only [Bool.not_eq_true', decide_eq_false_iff_not]; omega) | (with_reducible assumption) | (rw [decide_eq_false] <;> (first | omega | with_reducible rfl)) | (rw [decide_eq_true] <;> (first | omega | with_reducible rfl)) | (simp; done) | (simp; omega)) ?_)
     | (refine c_false rfl (by first | (simp only [Bool.not_eq_false', decide_eq_true_eq]; omega) | (with_reducible assumption) | (rw [decide_eq_false] <;> (first | omega | with_reducible rfl)) | (rw [decide_eq_true] <;> (first | omega | with_reducible rfl)) | (simp; done) | (simp; omega)) ?_)
     | refine c_cond rfl (fun hc => ?_) (fun hc => ?_)
     | refine c_condb rfl (fun hc => ?_) (fun hc => ?_)))
     | refine x_then ?_
     | refine x_then_ret ?_
     | refine x_then_exit ?_
     | refine x_block _ ?_
     | refine x_block_ret _ ?_
     | refine x_block_exit _ ?_
     | refine x_block_past (by decide) ?_
     | refine z_tailm ?_)
     | (refine z_isg0 ?_; first
     | refine z_skipu (by decide) rfl rfl ?_
     | (refine z_want0 rfl rfl (by first | with_reducible rfl | with_reducible assumption | ((with_reducible refine decide_eq_false ?_); first | with_reducible assumption | omega)) ?_)
     | (refine z_skip0 (by decide) rfl rfl (by first | with_reducible rfl | with_reducible assumption | ((with_reducible refine decide_eq_true ?_); first | with_reducible rfl | with_reducible assumption | omega)) ?_)
     | (refine z_want0 rfl rfl (by first | (simp only [Bool.not_eq_false', decide_eq_true_eq]; omega) | (with_reducible assumption) | (rw [decide_eq_false] <;> (first | omega | with_reducible rfl)) | (rw [decide_eq_true] <;> (first | omega | with_reducible rfl)) | (simp; done) | (simp; omega)) ?_)
     | (refine z_skip0 (by decide) rfl rfl (by first | (simp only [Bool.not_eq_true', decide_eq_false_iff_not]; omega) | (with_reducible assumption) | (rw [decide_eq_false] <;> (first | omega | with_reducible rfl)) | (rw [decide_eq_true] <;> (first | omega | with_reducible rfl)) | (simp; done) | (simp; omega)) ?_)
     | refine z_guard0 (by decide) rfl rfl (fun hc => ?_) (fun hc => ?_)
     | refine z_guardb (by decide) rfl rfl (fun hc => ?_) (fun hc => ?_))
     | (refine z_isnil ?_; first
     | refine z_keep1 ?_
     | refine z_list ?_
     | refine z_mixed ?_
     | refine z_mono0 ?_
     | refine z_mono1 (by decide) fun g => ?_
     | refine z_mono2 (by decide) (by decide) fun g g' => ?_
     | refine z_mixedx ?_
     | refine z_quiet ?_)
     | (refine z_isop ?_; first
     | refine o_boxa rfl rfl (by decide) fun g => ?_
     | refine o_alloca (e := 26) (vs := Cx.zero.cs) rfl (by kernel_rfl) (by decide) fun g => ?_
     | refine o_build (t := 26) (v := .agg Cx.zero.cs.toArray) rfl (fun _ => by kernel_rfl) (by decide) ?_
     | refine o_build (t := 32) (v := .agg (boCs fun _ => false).toArray) rfl (fun _ => by kernel_rfl) (by decide) ?_
     | (refine z_isbin ?_; first
     | (refine z_isb .lss ?_; first
     | refine o_lt rfl rfl (by decide) ?_)
     | (refine z_isb .gtr ?_; first
     | refine o_gt rfl rfl (by decide) ?_)
     | (refine z_isb .rem ?_; first
     | refine o_rem rfl rfl (by omega) (by omega) (by decide) ?_
     | refine o_remk rfl rfl (by omega) (by omega) (by decide) ?_
     | refine o_remt rfl rfl (by omega) (by decide) ?_))
     | (refine z_isload ?_; first
     | refine o_loadp tabOk rfl rfl rfl 0 rfl (cx_len _) (rf_c _) (by decide) ?_
     | refine o_loadp tabOk rfl rfl rfl 1 rfl (cx_len _) (rf_c _) (by decide) ?_
     | refine o_loadp tabOk rfl rfl rfl 2 rfl (cx_len _) (rf_c _) (by decide) ?_
     | (refine z_ld1 tabOk rfl rfl ?_; first
     | refine o_loadm tabOk rfl rfl rfl (by repeat' (first | exact List.mem_cons_self | apply List.mem_cons_of_mem)) (by first | exact rf_g _ (by omega) | exact rf_h _ (by omega) | exact rf_b _ | exact cx_pc _ | exact cx_r _ (by omega) | rfl) (by decide) ?_
     | refine o_loads tabOk (by first | assumption | exact Rds.cons _ (by assumption) | exact Rds.cons _ (Rds.cons _ (by assumption)) | exact own_rds 0 rfl | exact own_rds 1 rfl | exact own_rds 2 rfl) rfl rfl rfl (by first | exact rf_g _ (by omega) | exact rf_h _ (by omega) | exact rf_b _ | exact cx_pc _ | exact cx_r _ (by omega) | rfl) (by decide) ?_)
     | (refine z_ldw tabOk rfl rfl ?_; first
     | refine o_loadwm tabOk rfl rfl rfl (by repeat' (first | exact List.mem_cons_self | apply List.mem_cons_of_mem)) (by first | exact rf_len _ | exact cx_len _ | exact bo_len _ | (simp only [rf_len, cx_len, bo_len]) | rfl) (by decide) ?_))
     | (refine z_isstore ?_; first
     | (refine o_storew_at rfl 0 tabOk rfl rfl rfl rfl (cx_len _) (cx_one _) (by rw [rf_len, cx_len]; decide) (rf_set_c _ _) ?_)
     | (refine o_storew_at rfl 1 tabOk rfl rfl rfl rfl (cx_len _) (cx_one _) (by rw [rf_len, cx_len]; decide) (rf_set_c _ _) ?_)
     | (refine o_storew_at rfl 2 tabOk rfl rfl rfl rfl (cx_len _) (cx_one _) (by rw [rf_len, cx_len]; decide) (rf_set_c _ _) ?_)
     | (refine o_storew_at rfl 2 tabOk rfl rfl rfl rfl (bo_len _) (bo_one _) (by rw [rf_len, bo_len]; decide) (rf_set_gs _ _) ?_)
     | refine o_storebk 0 tabOk rfl rfl rfl rfl (by first | exact rf_len _ | exact cx_len _ | exact bo_len _ | (simp only [rf_len, cx_len, bo_len]) | rfl) (by first | exact rf_one _ | exact cx_one _ | exact bo_one _ | rfl) (by first | exact rf_len _ | exact cx_len _ | exact bo_len _ | (simp only [rf_len, cx_len, bo_len]) | rfl) ?_
     | (refine z_stw rfl ?_; first
     | ((refine z_sti 0 rfl rfl ?_; refine o_storeb0 rfl tabOk rfl rfl rfl (by first | exact rf_len _ | exact cx_len _ | exact bo_len _ | (simp only [rf_len, cx_len, bo_len]) | rfl) (by first | exact rf_one _ | exact cx_one _ | exact bo_one _ | rfl) (by first | exact rf_len _ | exact cx_len _ | exact bo_len _ | (simp only [rf_len, cx_len, bo_len]) | rfl) ?_))
     | ((refine z_sti 1 rfl rfl ?_; refine o_storeb1 rfl tabOk rfl rfl rfl (by first | exact rf_len _ | exact cx_len _ | exact bo_len _ | (simp only [rf_len, cx_len, bo_len]) | rfl) (by first | exact rf_one _ | exact cx_one _ | exact bo_one _ | rfl) (by first | exact rf_len _ | exact cx_len _ | exact bo_len _ | (simp only [rf_len, cx_len, bo_len]) | rfl) ?_))
     | ((refine z_sti 2 rfl rfl ?_; refine o_storeb2 rfl tabOk rfl rfl rfl (by first | exact rf_len _ | exact cx_len _ | exact bo_len _ | (simp only [rf_len, cx_len, bo_len]) | rfl) (by first | exact rf_one _ | exact cx_one _ | exact bo_one _ | rfl) (by first | exact rf_len _ | exact cx_len _ | exact bo_len _ | (simp only [rf_len, cx_len, bo_len]) | rfl) ?_))
     | ((refine z_sti 3 rfl rfl ?_; refine o_storeb3 rfl tabOk rfl rfl rfl (by first | exact rf_len _ | exact cx_len _ | exact bo_len _ | (simp only [rf_len, cx_len, bo_len]) | rfl) (by first | exact rf_one _ | exact cx_one _ | exact bo_one _ | rfl) (by first | exact rf_len _ | exact cx_len _ | exact bo_len _ | (simp only [rf_len, cx_len, bo_len]) | rfl) ?_))
     | ((refine z_sti 4 rfl rfl ?_; refine o_storeb4 rfl tabOk rfl rfl rfl (by first | exact rf_len _ | exact cx_len _ | exact bo_len _ | (simp only [rf_len, cx_len, bo_len]) | rfl) (by first | exact rf_one _ | exact cx_one _ | exact bo_one _ | rfl) (by first | exact rf_len _ | exact cx_len _ | exact bo_len _ | (simp only [rf_len, cx_len, bo_len]) | rfl) ?_))
     | ((refine z_sti 5 rfl rfl ?_; refine o_storeb5 rfl tabOk rfl rfl rfl (by first | exact rf_len _ | exact cx_len _ | exact bo_len _ | (simp only [rf_len, cx_len, bo_len]) | rfl) (by first | exact rf_one _ | exact cx_one _ | exact bo_one _ | rfl) (by first | exact rf_len _ | exact cx_len _ | exact bo_len _ | (simp only [rf_len, cx_len, bo_len]) | rfl) ?_))
     | ((refine z_sti 6 rfl rfl ?_; refine o_storeb6 rfl tabOk rfl rfl rfl (by first | exact rf_len _ | exact cx_len _ | exact bo_len _ | (simp only [rf_len, cx_len, bo_len]) | rfl) (by first | exact rf_one _ | exact cx_one _ | exact bo_one _ | rfl) (by first | exact rf_len _ | exact cx_len _ | exact bo_len _ | (simp only [rf_len, cx_len, bo_len]) | rfl) ?_)))
     | (refine z_st1 rfl rfl ?_; first
     | refine o_store rfl tabOk rfl rfl rfl rfl rfl (by first | exact rf_g _ (by omega) | exact rf_h _ (by omega) | exact rf_b _ | exact cx_pc _ | exact cx_r _ (by omega) | rfl) (by first | exact rf_set_g _ (by omega) _ | exact rf_set_h _ (by omega) _ | exact rf_set_b _ _ | exact cx_set_pc _ _ | exact cx_set_r _ (by omega) _ | rfl) ?_
     | ((refine z_sti 1 rfl rfl ?_; refine o_store1 rfl tabOk rfl rfl rfl rfl rfl (by first | exact rf_g _ (by omega) | exact rf_h _ (by omega) | exact rf_b _ | exact cx_pc _ | exact cx_r _ (by omega) | rfl) (by first | exact rf_set_g _ (by omega) _ | exact rf_set_h _ (by omega) _ | exact rf_set_b _ _ | exact cx_set_pc _ _ | exact cx_set_r _ (by omega) _ | rfl) ?_))
     | ((refine z_sti 2 rfl rfl ?_; refine o_store2 rfl tabOk rfl rfl rfl rfl rfl (by first | exact rf_g _ (by omega) | exact rf_h _ (by omega) | exact rf_b _ | exact cx_pc _ | exact cx_r _ (by omega) | rfl) (by first | exact rf_set_g _ (by omega) _ | exact rf_set_h _ (by omega) _ | exact rf_set_b _ _ | exact cx_set_pc _ _ | exact cx_set_r _ (by omega) _ | rfl) ?_))
     | ((refine z_sti 3 rfl rfl ?_; refine o_store3 rfl tabOk rfl rfl rfl rfl rfl (by first | exact rf_g _ (by omega) | exact rf_h _ (by omega) | exact rf_b _ | exact cx_pc _ | exact cx_r _ (by omega) | rfl) (by first | exact rf_set_g _ (by omega) _ | exact rf_set_h _ (by omega) _ | exact rf_set_b _ _ | exact cx_set_pc _ _ | exact cx_set_r _ (by omega) _ | rfl) ?_))
     | ((refine z_sti 4 rfl rfl ?_; refine o_store4 rfl tabOk rfl rfl rfl rfl rfl (by first | exact rf_g _ (by omega) | exact rf_h _ (by omega) | exact rf_b _ | exact cx_pc _ | exact cx_r _ (by omega) | rfl) (by first | exact rf_set_g _ (by omega) _ | exact rf_set_h _ (by omega) _ | exact rf_set_b _ _ | exact cx_set_pc _ _ | exact cx_set_r _ (by omega) _ | rfl) ?_))
     | ((refine z_sti 5 rfl rfl ?_; refine o_store5 rfl tabOk rfl rfl rfl rfl rfl (by first | exact rf_g _ (by omega) | exact rf_h _ (by omega) | exact rf_b _ | exact cx_pc _ | exact cx_r _ (by omega) | rfl) (by first | exact rf_set_g _ (by omega) _ | exact rf_set_h _ (by omega) _ | exact rf_set_b _ _ | exact cx_set_pc _ _ | exact cx_set_r _ (by omega) _ | rfl) ?_))
     | ((refine z_sti 6 rfl rfl ?_; refine o_store6 rfl tabOk rfl rfl rfl rfl rfl (by first | exact rf_g _ (by omega) | exact rf_h _ (by omega) | exact rf_b _ | exact cx_pc _ | exact cx_r _ (by omega) | rfl) (by first | exact rf_set_g _ (by omega) _ | exact rf_set_h _ (by omega) _ | exact rf_set_b _ _ | exact cx_set_pc _ _ | exact cx_set_r _ (by omega) _ | rfl) ?_))))
     | (refine z_ispick ?_; first
     | (refine o_pick1 rfl (by first | with_reducible rfl | with_reducible assumption | ((with_reducible refine decide_eq_true ?_); first | with_reducible rfl | with_reducible assumption | omega)) rfl (by decide) ?_)
     | (refine o_pick0 rfl (by first | with_reducible rfl | with_reducible assumption | ((with_reducible refine decide_eq_false ?_); first | with_reducible assumption | omega)) rfl (by decide) ?_)
     | (refine o_pick1 rfl (by first | (simp only [Bool.not_eq_true', decide_eq_false_iff_not]; omega) | (with_reducible assumption) | (rw [decide_eq_false] <;> (first | omega | with_reducible rfl)) | (rw [decide_eq_true] <;> (first | omega | with_reducible rfl)) | (simp; done) | (simp; omega)) rfl (by decide) ?_)
     | (refine o_pick0 rfl (by first | (simp only [Bool.not_eq_false', decide_eq_true_eq]; omega) | (with_reducible assumption) | (rw [decide_eq_false] <;> (first | omega | with_reducible rfl)) | (rw [decide_eq_true] <;> (first | omega | with_reducible rfl)) | (simp; done) | (simp; omega)) rfl (by decide) ?_))
     | (refine z_isix ?_; first
     | refine o_index0 tabOk rfl rfl rfl rfl (by omega) (by omega) (by decide) ?_
     | refine o_index1 tabOk rfl rfl rfl rfl (by omega) (by omega) (by decide) ?_
     | refine o_indexsk tabOk rfl rfl rfl rfl (by omega) (by omega) (by decide) ?_
     | refine o_indexs1 tabOk (by first | assumption) rfl rfl rfl rfl (by omega) (by omega) (by decide) ?_)
     | refine o_move rfl (by decide) ?_
     | refine o_assign rfl (by decide) ?_
     | refine o_nil rfl (by decide) ?_
     | refine o_extract rfl rfl (by decide) ?_
     | refine o_not rfl (by decide) ?_
     | refine o_field0 tabOk rfl rfl rfl rfl rfl (by decide) ?_
     | refine o_field tabOk rfl rfl rfl rfl rfl (by decide) ?_
     | refine o_conv tabOk rfl rfl rfl (by decide) ?_))
theorem rret_c (b : Nat) (r : Rf) : Does Tryd.prog 17 [.pointer (some ⟨b, 0, none⟩)] [cells b 34 r.cs] (fun _ : Unit => True) (fun _ => .tuple #[.agg r.c.cs.toArray, .bool r.b]) (fun _ => [cells b 34 ({ r with b := false, c := Cx.zero } : Rf).cs]) := by
  intro w hw
  refine f_enter Tryd.func17 rfl Tryd.ntmps17 rfl hw ?_
  repeat' (first
   | (refine s_is ?_; first
   | (refine s_isret ?_; first
   | exact f_r2 rfl (res_c tabOk rfl rfl rfl 1 rfl (cx_len _)) (res_t rfl) () trivial rfl (fun w h => h.sub (List.sublist_append_right [_, _] _)))
   | (refine s_isw ?_; first
   | refine c_seq ?_
   | refine c_block ?_
   | refine c_region ?_
   | refine c_mixed mixed (by kernel_rfl) ?_
   | refine c_skip ?_
   | refine c_ret ?_
   | refine c_exit ?_
   | (refine s_iscond ?_; first
   | (refine c_true rfl (by first | with_reducible rfl | with_reducible assumption | ((with_reducible refine decide_eq_true ?_); first | with_reducible rfl | with_reducible assumption | omega)) ?_)
   | (refine c_false rfl (by first | with_reducible rfl | with_reducible assumption | ((with_reducible refine decide_eq_false ?_); first | with_reducible assumption | omega)) ?_)
   | (refine c_true rfl (by first | (simp only [Bool.not_eq_true', decide_eq_false_iff_not]; omega) | (with_reducible assumption) | (rw [decide_eq_false] <;> (first | omega | with_reducible rfl)) | (rw [decide_eq_true] <;> (first | omega | with_reducible rfl)) | (simp; done) | (simp; omega)) ?_)
   | (refine c_false rfl (by first | (simp only [Bool.not_eq_false', decide_eq_true_eq]; omega) | (with_reducible assumption) | (rw [decide_eq_false] <;> (first | omega | with_reducible rfl)) | (rw [decide_eq_true] <;> (first | omega | with_reducible rfl)) | (simp; done) | (simp; omega)) ?_)
   | refine c_cond rfl (fun hc => ?_) (fun hc => ?_)
   | refine c_condb rfl (fun hc => ?_) (fun hc => ?_)))
   | refine x_then ?_
   | refine x_then_ret ?_
   | refine x_then_exit ?_
   | refine x_block _ ?_
   | refine x_block_ret _ ?_
   | refine x_block_exit _ ?_
   | refine x_block_past (by decide) ?_
   | refine z_tailm ?_)
   | (refine z_isnil ?_; first
   | refine z_keep1 ?_
   | refine z_list ?_
   | refine z_mixed ?_
   | refine z_mono0 ?_
   | refine z_mono1 (by decide) fun g => ?_
   | refine z_mono2 (by decide) (by decide) fun g g' => ?_
   | refine z_mixedx ?_
   | refine z_quiet ?_)
   | (refine z_isop ?_; first
   | refine o_boxa rfl rfl (by decide) fun g => ?_
   | refine o_alloca (e := 26) (vs := Cx.zero.cs) rfl (by kernel_rfl) (by decide) fun g => ?_
   | refine o_build (t := 26) (v := .agg Cx.zero.cs.toArray) rfl (fun _ => by kernel_rfl) (by decide) ?_
   | refine o_build (t := 32) (v := .agg (boCs fun _ => false).toArray) rfl (fun _ => by kernel_rfl) (by decide) ?_
   | (refine z_isload ?_; first
   | refine o_loadp tabOk rfl rfl rfl 0 rfl (cx_len _) (rf_c _) (by decide) ?_
   | refine o_loadp tabOk rfl rfl rfl 1 rfl (cx_len _) (rf_c _) (by decide) ?_
   | refine o_loadp tabOk rfl rfl rfl 2 rfl (cx_len _) (rf_c _) (by decide) ?_
   | (refine z_ld1 tabOk rfl rfl ?_; first
   | refine o_loadm tabOk rfl rfl rfl (by repeat' (first | exact List.mem_cons_self | apply List.mem_cons_of_mem)) (by first | exact rf_g _ (by omega) | exact rf_h _ (by omega) | exact rf_b _ | exact cx_pc _ | exact cx_r _ (by omega) | rfl) (by decide) ?_
   | refine o_loads tabOk (by first | assumption | exact Rds.cons _ (by assumption) | exact Rds.cons _ (Rds.cons _ (by assumption)) | exact own_rds 0 rfl | exact own_rds 1 rfl | exact own_rds 2 rfl) rfl rfl rfl (by first | exact rf_g _ (by omega) | exact rf_h _ (by omega) | exact rf_b _ | exact cx_pc _ | exact cx_r _ (by omega) | rfl) (by decide) ?_)
   | (refine z_ldw tabOk rfl rfl ?_; first
   | refine o_loadwm tabOk rfl rfl rfl (by repeat' (first | exact List.mem_cons_self | apply List.mem_cons_of_mem)) (by first | exact rf_len _ | exact cx_len _ | exact bo_len _ | (simp only [rf_len, cx_len, bo_len]) | rfl) (by decide) ?_))
   | (refine z_isstore ?_; first
   | (refine o_storew_at rfl 0 tabOk rfl rfl rfl rfl (cx_len _) (cx_one _) (by rw [rf_len, cx_len]; decide) (rf_set_c _ _) ?_)
   | (refine o_storew_at rfl 1 tabOk rfl rfl rfl rfl (cx_len _) (cx_one _) (by rw [rf_len, cx_len]; decide) (rf_set_c _ _) ?_)
   | (refine o_storew_at rfl 2 tabOk rfl rfl rfl rfl (cx_len _) (cx_one _) (by rw [rf_len, cx_len]; decide) (rf_set_c _ _) ?_)
   | (refine o_storew_at rfl 2 tabOk rfl rfl rfl rfl (bo_len _) (bo_one _) (by rw [rf_len, bo_len]; decide) (rf_set_gs _ _) ?_)
   | refine o_storebk 0 tabOk rfl rfl rfl rfl (by first | exact rf_len _ | exact cx_len _ | exact bo_len _ | (simp only [rf_len, cx_len, bo_len]) | rfl) (by first | exact rf_one _ | exact cx_one _ | exact bo_one _ | rfl) (by first | exact rf_len _ | exact cx_len _ | exact bo_len _ | (simp only [rf_len, cx_len, bo_len]) | rfl) ?_
   | (refine z_stw rfl ?_; first
   | ((refine z_sti 0 rfl rfl ?_; refine o_storeb0 rfl tabOk rfl rfl rfl (by first | exact rf_len _ | exact cx_len _ | exact bo_len _ | (simp only [rf_len, cx_len, bo_len]) | rfl) (by first | exact rf_one _ | exact cx_one _ | exact bo_one _ | rfl) (by first | exact rf_len _ | exact cx_len _ | exact bo_len _ | (simp only [rf_len, cx_len, bo_len]) | rfl) ?_))
   | ((refine z_sti 1 rfl rfl ?_; refine o_storeb1 rfl tabOk rfl rfl rfl (by first | exact rf_len _ | exact cx_len _ | exact bo_len _ | (simp only [rf_len, cx_len, bo_len]) | rfl) (by first | exact rf_one _ | exact cx_one _ | exact bo_one _ | rfl) (by first | exact rf_len _ | exact cx_len _ | exact bo_len _ | (simp only [rf_len, cx_len, bo_len]) | rfl) ?_))
   | ((refine z_sti 2 rfl rfl ?_; refine o_storeb2 rfl tabOk rfl rfl rfl (by first | exact rf_len _ | exact cx_len _ | exact bo_len _ | (simp only [rf_len, cx_len, bo_len]) | rfl) (by first | exact rf_one _ | exact cx_one _ | exact bo_one _ | rfl) (by first | exact rf_len _ | exact cx_len _ | exact bo_len _ | (simp only [rf_len, cx_len, bo_len]) | rfl) ?_))
   | ((refine z_sti 3 rfl rfl ?_; refine o_storeb3 rfl tabOk rfl rfl rfl (by first | exact rf_len _ | exact cx_len _ | exact bo_len _ | (simp only [rf_len, cx_len, bo_len]) | rfl) (by first | exact rf_one _ | exact cx_one _ | exact bo_one _ | rfl) (by first | exact rf_len _ | exact cx_len _ | exact bo_len _ | (simp only [rf_len, cx_len, bo_len]) | rfl) ?_))
   | ((refine z_sti 4 rfl rfl ?_; refine o_storeb4 rfl tabOk rfl rfl rfl (by first | exact rf_len _ | exact cx_len _ | exact bo_len _ | (simp only [rf_len, cx_len, bo_len]) | rfl) (by first | exact rf_one _ | exact cx_one _ | exact bo_one _ | rfl) (by first | exact rf_len _ | exact cx_len _ | exact bo_len _ | (simp only [rf_len, cx_len, bo_len]) | rfl) ?_))
   | ((refine z_sti 5 rfl rfl ?_; refine o_storeb5 rfl tabOk rfl rfl rfl (by first | exact rf_len _ | exact cx_len _ | exact bo_len _ | (simp only [rf_len, cx_len, bo_len]) | rfl) (by first | exact rf_one _ | exact cx_one _ | exact bo_one _ | rfl) (by first | exact rf_len _ | exact cx_len _ | exact bo_len _ | (simp only [rf_len, cx_len, bo_len]) | rfl) ?_))
   | ((refine z_sti 6 rfl rfl ?_; refine o_storeb6 rfl tabOk rfl rfl rfl (by first | exact rf_len _ | exact cx_len _ | exact bo_len _ | (simp only [rf_len, cx_len, bo_len]) | rfl) (by first | exact rf_one _ | exact cx_one _ | exact bo_one _ | rfl) (by first | exact rf_len _ | exact cx_len _ | exact bo_len _ | (simp only [rf_len, cx_len, bo_len]) | rfl) ?_)))
   | (refine z_st1 rfl rfl ?_; first
   | refine o_store rfl tabOk rfl rfl rfl rfl rfl (by first | exact rf_g _ (by omega) | exact rf_h _ (by omega) | exact rf_b _ | exact cx_pc _ | exact cx_r _ (by omega) | rfl) (by first | exact rf_set_g _ (by omega) _ | exact rf_set_h _ (by omega) _ | exact rf_set_b _ _ | exact cx_set_pc _ _ | exact cx_set_r _ (by omega) _ | rfl) ?_
   | ((refine z_sti 1 rfl rfl ?_; refine o_store1 rfl tabOk rfl rfl rfl rfl rfl (by first | exact rf_g _ (by omega) | exact rf_h _ (by omega) | exact rf_b _ | exact cx_pc _ | exact cx_r _ (by omega) | rfl) (by first | exact rf_set_g _ (by omega) _ | exact rf_set_h _ (by omega) _ | exact rf_set_b _ _ | exact cx_set_pc _ _ | exact cx_set_r _ (by omega) _ | rfl) ?_))
   | ((refine z_sti 2 rfl rfl ?_; refine o_store2 rfl tabOk rfl rfl rfl rfl rfl (by first | exact rf_g _ (by omega) | exact rf_h _ (by omega) | exact rf_b _ | exact cx_pc _ | exact cx_r _ (by omega) | rfl) (by first | exact rf_set_g _ (by omega) _ | exact rf_set_h _ (by omega) _ | exact rf_set_b _ _ | exact cx_set_pc _ _ | exact cx_set_r _ (by omega) _ | rfl) ?_))
   | ((refine z_sti 3 rfl rfl ?_; refine o_store3 rfl tabOk rfl rfl rfl rfl rfl (by first | exact rf_g _ (by omega) | exact rf_h _ (by omega) | exact rf_b _ | exact cx_pc _ | exact cx_r _ (by omega) | rfl) (by first | exact rf_set_g _ (by omega) _ | exact rf_set_h _ (by omega) _ | exact rf_set_b _ _ | exact cx_set_pc _ _ | exact cx_set_r _ (by omega) _ | rfl) ?_))
   | ((refine z_sti 4 rfl rfl ?_; refine o_store4 rfl tabOk rfl rfl rfl rfl rfl (by first | exact rf_g _ (by omega) | exact rf_h _ (by omega) | exact rf_b _ | exact cx_pc _ | exact cx_r _ (by omega) | rfl) (by first | exact rf_set_g _ (by omega) _ | exact rf_set_h _ (by omega) _ | exact rf_set_b _ _ | exact cx_set_pc _ _ | exact cx_set_r _ (by omega) _ | rfl) ?_))
   | ((refine z_sti 5 rfl rfl ?_; refine o_store5 rfl tabOk rfl rfl rfl rfl rfl (by first | exact rf_g _ (by omega) | exact rf_h _ (by omega) | exact rf_b _ | exact cx_pc _ | exact cx_r _ (by omega) | rfl) (by first | exact rf_set_g _ (by omega) _ | exact rf_set_h _ (by omega) _ | exact rf_set_b _ _ | exact cx_set_pc _ _ | exact cx_set_r _ (by omega) _ | rfl) ?_))
   | ((refine z_sti 6 rfl rfl ?_; refine o_store6 rfl tabOk rfl rfl rfl rfl rfl (by first | exact rf_g _ (by omega) | exact rf_h _ (by omega) | exact rf_b _ | exact cx_pc _ | exact cx_r _ (by omega) | rfl) (by first | exact rf_set_g _ (by omega) _ | exact rf_set_h _ (by omega) _ | exact rf_set_b _ _ | exact cx_set_pc _ _ | exact cx_set_r _ (by omega) _ | rfl) ?_))))
   | refine o_move rfl (by decide) ?_
   | refine o_assign rfl (by decide) ?_
   | refine o_nil rfl (by decide) ?_
   | refine o_extract rfl rfl (by decide) ?_
   | refine o_not rfl (by decide) ?_
   | refine o_field0 tabOk rfl rfl rfl rfl rfl (by decide) ?_
   | refine o_field tabOk rfl rfl rfl rfl rfl (by decide) ?_
   | refine o_conv tabOk rfl rfl rfl (by decide) ?_))
end Go.Proofs.YtjejnlfbonpfaaaDoor
