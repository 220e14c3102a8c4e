/-
Walks over package sig: what each function computes; a state as its number of waiting signals, its handlers, whether it is busy, and where it was.
-/
import Derived.Test.YtjejnlfbonpfaaaDoorTab
import Derived.Test.YtjejnlfbonpfaaaDoorEng9
namespace Go.Proofs.YtjejnlfbonpfaaaDoor
set_option linter.unusedVariables false
set_option linter.unusedSimpArgs false
open Eng

/-- A program's registers and place. -/
structure Cx where
  r : Nat → Int
  pc : Int
def Cx.cs (c : Cx) : List Value := arr 16 (fun i => .int .u32 (c.r i)) ++ [.int .u32 c.pc]
def Cx.zero : Cx := ⟨fun _ => 0, 0⟩
theorem cx_len (c : Cx) : c.cs.length = 17 := by simp [Cx.cs]
theorem cx_one (c : Cx) : c.cs.all (·.oneCell') = true := by simp [Cx.cs, arr]; exact ⟨fun _ _ => rfl, rfl⟩
/-- The program's signals. -/
structure Sg where
  w : Int
  h : Nat → Int
  b : Bool
  c : Cx
def hsCs (h : Nat → Int) : List Value := arr 9 fun i => .int .u32 (h i)
theorem hs_len (h : Nat → Int) : (hsCs h).length = 9 := arr_length _ _
theorem hs_one (h : Nat → Int) : (hsCs h).all (·.oneCell') = true := by simp [hsCs, arr]; intros; rfl
def Sg.cs (s : Sg) : List Value := .int .u16 s.w :: (hsCs s.h ++ .bool s.b :: s.c.cs)
theorem sg_len (s : Sg) : s.cs.length = 28 := by simp [Sg.cs, hs_len, cx_len]
theorem sg_one (s : Sg) : s.cs.all (·.oneCell') = true := by
  have h1 := hs_one s.h
  have h2 := cx_one s.c
  simp only [Sg.cs, List.all_cons, List.all_append, h1, h2, Bool.and_true, Bool.true_and]
  rfl
theorem sg_w (s : Sg) : s.cs[0]? = some (.int .u16 s.w) := rfl
theorem sg_b (s : Sg) : s.cs[10]? = some (.bool s.b) := by
  show (hsCs s.h ++ _)[9]? = _
  rw [List.getElem?_append_right (by rw [hs_len]; omega), hs_len]; rfl
theorem sg_h (s : Sg) {i : Nat} (hi : i < 9) : s.cs[1 + i]? = some (.int .u32 (s.h i)) := by
  rw [show 1 + i = i + 1 by omega]
  show (hsCs s.h ++ _)[i]? = _
  rw [List.getElem?_append_left (by rw [hs_len]; exact hi)]
  exact arr_get hi
theorem sg_c (s : Sg) : ∀ (j : Nat) u, s.c.cs[j]? = some u → s.cs[11 + j]? = some u := fun j u h => by
  rw [show 11 + j = (10 + j) + 1 by omega]
  show (hsCs s.h ++ _)[10 + j]? = _
  rw [List.getElem?_append_right (by rw [hs_len]; omega), hs_len, show 10 + j - 9 = j + 1 by omega]
  exact h
theorem sg_set_w (s : Sg) (x : Int) : s.cs.set 0 (.int .u16 x) = ({ s with w := x } : Sg).cs := rfl
theorem sg_set_b (s : Sg) (x : Bool) : s.cs.set 10 (.bool x) = ({ s with b := x } : Sg).cs := by
  show Value.int .u16 s.w :: (hsCs s.h ++ _).set 9 _ = _
  rw [List.set_append_right _ _ (by rw [hs_len]; omega), hs_len]; rfl
theorem sg_set_h (s : Sg) {i : Nat} (hi : i < 9) (x : Int) : s.cs.set (1 + i) (.int .u32 x) = ({ s with h := upd s.h i x } : Sg).cs := by
  rw [show 1 + i = i + 1 by omega]
  show Value.int .u16 s.w :: (hsCs s.h ++ _).set i _ = _
  rw [List.set_append_left _ _ (by rw [hs_len]; exact hi)]
  have : (hsCs s.h).set i (.int .u32 x) = hsCs (upd s.h i x) := by
    unfold hsCs
    rw [arr_set]
    congr 1
    funext j
    unfold upd
    split <;> rfl
  rw [this]; rfl
attribute [local irreducible] Eng.Hold Eng.Z Eng.S Eng.cells Eng.old Eng.own Sg.cs Cx.cs hsCs
def Sg.zero : Sg := ⟨0, fun _ => 0, false, Cx.zero⟩
theorem in_fn (i : Int) : Pf Tryd.prog 21 [.int .i64 i] (.bool (decide (1 ≤ i ∧ i ≤ 8))) := by
  intro w hw
  refine f_enter Tryd.func21 rfl Tryd.ntmps21 rfl hw ?_
  repeat' (first
   | (refine s_is ?_; first
   | (refine s_isret ?_; first
   | (exact p_r1 rfl (res_t (by show some (Value.bool _) = some (Value.bool _); simp; omega))))
   | (refine s_isw ?_; first
   | refine c_seq ?_
   | refine c_block ?_
   | refine c_region ?_
   | refine c_mixed mixed (by kernel_rfl) ?_
   | refine c_skip ?_
   | refine c_ret ?_
   | refine c_exit ?_
   | (refine s_iscond ?_; first
   | (refine c_true rfl (by first | with_reducible rfl | with_reducible assumption | ((with_reducible refine decide_eq_true ?_); first | with_reducible rfl | with_reducible assumption | omega)) ?_)
   | (refine c_false rfl (by first | with_reducible rfl | with_reducible assumption | ((with_reducible refine decide_eq_false ?_); first | with_reducible assumption | omega)) ?_)
   | (refine c_true rfl (by first | (simp only [Bool.not_eq_true', decide_eq_false_iff_not]; omega) | (with_reducible assumption) | (rw [decide_eq_false] <;> (first | omega | with_reducible rfl)) | (rw [decide_eq_true] <;> (first | omega | with_reducible rfl)) | (simp; done) | (simp; omega)) ?_)
   | (refine c_false rfl (by first | (simp only [Bool.not_eq_false', decide_eq_true_eq]; omega) | (with_reducible assumption) | (rw [decide_eq_false] <;> (first | omega | with_reducible rfl)) | (rw [decide_eq_true] <;> (first | omega | with_reducible rfl)) | (simp; done) | (simp; omega)) ?_)
   | refine c_cond rfl (fun hc => ?_) (fun hc => ?_)
   | refine c_condb rfl (fun hc => ?_) (fun hc => ?_)))
   | refine x_then ?_
   | refine x_then_ret ?_
   | refine x_then_exit ?_
   | refine x_block _ ?_
   | refine x_block_ret _ ?_
   | refine x_block_exit _ ?_
   | refine x_block_past (by decide) ?_
   | refine z_tailm ?_)
   | (refine z_isg1 ?_; first
   | refine z_skipu (by decide) rfl rfl ?_
   | (refine z_want1 rfl rfl (by first | with_reducible rfl | with_reducible assumption | ((with_reducible refine decide_eq_true ?_); first | with_reducible rfl | with_reducible assumption | omega)) ?_)
   | (refine z_skip1 (by decide) rfl rfl (by first | with_reducible rfl | with_reducible assumption | ((with_reducible refine decide_eq_false ?_); first | with_reducible assumption | omega)) ?_)
   | (refine z_want1 rfl rfl (by first | (simp only [Bool.not_eq_true', decide_eq_false_iff_not]; omega) | (with_reducible assumption) | (rw [decide_eq_false] <;> (first | omega | with_reducible rfl)) | (rw [decide_eq_true] <;> (first | omega | with_reducible rfl)) | (simp; done) | (simp; omega)) ?_)
   | (refine z_skip1 (by decide) rfl rfl (by first | (simp only [Bool.not_eq_false', decide_eq_true_eq]; omega) | (with_reducible assumption) | (rw [decide_eq_false] <;> (first | omega | with_reducible rfl)) | (rw [decide_eq_true] <;> (first | omega | with_reducible rfl)) | (simp; done) | (simp; omega)) ?_)
   | refine z_guard1 (by decide) rfl rfl (fun hc => ?_) (fun hc => ?_)
   | refine z_guardb (by decide) rfl rfl (fun hc => ?_) (fun hc => ?_))
   | (refine z_isnil ?_; first
   | refine z_list ?_
   | refine z_mixed ?_
   | refine z_mono0 ?_
   | refine z_mono1 (by decide) fun g => ?_
   | refine z_mono2 (by decide) (by decide) fun g g' => ?_
   | refine z_mixedx ?_
   | refine z_quiet ?_)
   | (refine z_isop ?_; first
   | refine o_boxa rfl rfl (by decide) fun g => ?_
   | refine o_alloca (e := 30) (vs := Sg.zero.cs) rfl (by kernel_rfl) (by decide) fun g => ?_
   | refine o_alloca (e := 26) (vs := Cx.zero.cs) rfl (by kernel_rfl) (by decide) fun g => ?_
   | (refine z_isbin ?_; first
   | (refine z_isb .leq ?_; first
   | refine o_le rfl rfl (by decide) ?_)
   | (refine z_isb .geq ?_; first
   | refine o_ge rfl rfl (by decide) ?_))
   | (refine z_ispick ?_; first
   | (refine o_pick1 rfl (by first | with_reducible rfl | with_reducible assumption | ((with_reducible refine decide_eq_true ?_); first | with_reducible rfl | with_reducible assumption | omega)) rfl (by decide) ?_)
   | (refine o_pick0 rfl (by first | with_reducible rfl | with_reducible assumption | ((with_reducible refine decide_eq_false ?_); first | with_reducible assumption | omega)) rfl (by decide) ?_)
   | (refine o_pick1 rfl (by first | (simp only [Bool.not_eq_true', decide_eq_false_iff_not]; omega) | (with_reducible assumption) | (rw [decide_eq_false] <;> (first | omega | with_reducible rfl)) | (rw [decide_eq_true] <;> (first | omega | with_reducible rfl)) | (simp; done) | (simp; omega)) rfl (by decide) ?_)
   | (refine o_pick0 rfl (by first | (simp only [Bool.not_eq_false', decide_eq_true_eq]; omega) | (with_reducible assumption) | (rw [decide_eq_false] <;> (first | omega | with_reducible rfl)) | (rw [decide_eq_true] <;> (first | omega | with_reducible rfl)) | (simp; done) | (simp; omega)) rfl (by decide) ?_))
   | refine o_move rfl (by decide) ?_
   | refine o_assign rfl (by decide) ?_
   | refine o_nil rfl (by decide) ?_
   | refine o_extract rfl rfl (by decide) ?_
   | refine o_not rfl (by decide) ?_
   | refine o_field0 tabOk rfl rfl rfl rfl rfl (by decide) ?_
   | refine o_field tabOk rfl rfl rfl rfl rfl (by decide) ?_
   | refine o_conv tabOk rfl rfl rfl (by decide) ?_))
theorem busy_fn (s : Sg) : Pf Tryd.prog 13 [.agg s.cs.toArray] (.bool s.b) := by
  intro w hw
  refine f_enter Tryd.func13 rfl Tryd.ntmps13 rfl hw ?_
  repeat' (first
   | (refine s_is ?_; first
   | (refine s_isret ?_; first
   | exact p_r1 rfl (res_t rfl))
   | (refine s_isw ?_; first
   | refine c_seq ?_
   | refine c_block ?_
   | refine c_region ?_
   | refine c_mixed mixed (by kernel_rfl) ?_
   | refine c_skip ?_
   | refine c_ret ?_
   | refine c_exit ?_
   | (refine s_iscond ?_; first
   | (refine c_true rfl (by first | with_reducible rfl | with_reducible assumption | ((with_reducible refine decide_eq_true ?_); first | with_reducible rfl | with_reducible assumption | omega)) ?_)
   | (refine c_false rfl (by first | with_reducible rfl | with_reducible assumption | ((with_reducible refine decide_eq_false ?_); first | with_reducible assumption | omega)) ?_)
   | (refine c_true rfl (by first | (simp only [Bool.not_eq_true', decide_eq_false_iff_not]; omega) | (with_reducible assumption) | (rw [decide_eq_false] <;> (first | omega | with_reducible rfl)) | (rw [decide_eq_true] <;> (first | omega | with_reducible rfl)) | (simp; done) | (simp; omega)) ?_)
   | (refine c_false rfl (by first | (simp only [Bool.not_eq_false', decide_eq_true_eq]; omega) | (with_reducible assumption) | (rw [decide_eq_false] <;> (first | omega | with_reducible rfl)) | (rw [decide_eq_true] <;> (first | omega | with_reducible rfl)) | (simp; done) | (simp; omega)) ?_)
   | refine c_cond rfl (fun hc => ?_) (fun hc => ?_)
   | refine c_condb rfl (fun hc => ?_) (fun hc => ?_)))
   | refine x_then ?_
   | refine x_then_ret ?_
   | refine x_then_exit ?_
   | refine x_block _ ?_
   | refine x_block_ret _ ?_
   | refine x_block_exit _ ?_
   | refine x_block_past (by decide) ?_
   | refine z_tailm ?_)
   | (refine z_isnil ?_; first
   | refine z_list ?_
   | refine z_mixed ?_
   | refine z_mono0 ?_
   | refine z_mono1 (by decide) fun g => ?_
   | refine z_mono2 (by decide) (by decide) fun g g' => ?_
   | refine z_mixedx ?_
   | refine z_quiet ?_)
   | (refine z_isop ?_; first
   | refine o_boxa rfl rfl (by decide) fun g => ?_
   | refine o_alloca (e := 30) (vs := Sg.zero.cs) rfl (by kernel_rfl) (by decide) fun g => ?_
   | refine o_alloca (e := 26) (vs := Cx.zero.cs) rfl (by kernel_rfl) (by decide) fun g => ?_
   | (refine z_isload ?_; first
   | (refine z_ld1 tabOk rfl rfl ?_; first
   | refine o_loadm tabOk rfl rfl rfl (by repeat' (first | exact List.mem_cons_self | apply List.mem_cons_of_mem)) (by first | exact sg_w _ | exact sg_b _ | exact sg_h _ (by omega) | rfl) (by decide) ?_
   | refine o_loads tabOk (by first | assumption | exact Rds.cons _ (by assumption) | exact Rds.cons _ (Rds.cons _ (by assumption)) | exact own_rds 0 rfl | exact own_rds 1 rfl | exact own_rds 2 rfl) rfl rfl rfl (by first | exact sg_w _ | exact sg_b _ | exact sg_h _ (by omega) | rfl) (by decide) ?_)
   | (refine z_ldw tabOk rfl rfl ?_; first
   | refine o_loadwm tabOk rfl rfl rfl (by repeat' (first | exact List.mem_cons_self | apply List.mem_cons_of_mem)) (by first | exact sg_len _ | exact cx_len _ | (simp only [sg_len, cx_len]) | rfl) (by decide) ?_))
   | (refine z_iscall ?_; first
   | ((refine z_iscallf 21 ?_; refine o_fn rfl Tryd.func21 rfl rfl rfl (in_fn _) (by decide) ?_)))
   | refine o_move rfl (by decide) ?_
   | refine o_assign rfl (by decide) ?_
   | refine o_nil rfl (by decide) ?_
   | refine o_extract rfl rfl (by decide) ?_
   | refine o_not rfl (by decide) ?_
   | refine o_field0 tabOk rfl rfl rfl rfl rfl (by decide) ?_
   | refine o_field tabOk rfl rfl rfl rfl rfl (by decide) ?_
   | refine o_conv tabOk rfl rfl rfl (by decide) ?_))
theorem fork_fn (s : Sg) : Pf Tryd.prog 18 [.agg s.cs.toArray] (.agg ({ s with w := 0 } : Sg).cs.toArray) := by
  intro w hw
  refine f_enter Tryd.func18 rfl Tryd.ntmps18 rfl hw ?_
  repeat' (first
   | (refine s_is ?_; first
   | (refine s_isret ?_; first
   | exact p_r1 rfl (res_c tabOk rfl rfl rfl 0 rfl (sg_len _)))
   | (refine s_isw ?_; first
   | refine c_seq ?_
   | refine c_block ?_
   | refine c_region ?_
   | refine c_mixed mixed (by kernel_rfl) ?_
   | refine c_skip ?_
   | refine c_ret ?_
   | refine c_exit ?_
   | (refine s_iscond ?_; first
   | (refine c_true rfl (by first | with_reducible rfl | with_reducible assumption | ((with_reducible refine decide_eq_true ?_); first | with_reducible rfl | with_reducible assumption | omega)) ?_)
   | (refine c_false rfl (by first | with_reducible rfl | with_reducible assumption | ((with_reducible refine decide_eq_false ?_); first | with_reducible assumption | omega)) ?_)
   | (refine c_true rfl (by first | (simp only [Bool.not_eq_true', decide_eq_false_iff_not]; omega) | (with_reducible assumption) | (rw [decide_eq_false] <;> (first | omega | with_reducible rfl)) | (rw [decide_eq_true] <;> (first | omega | with_reducible rfl)) | (simp; done) | (simp; omega)) ?_)
   | (refine c_false rfl (by first | (simp only [Bool.not_eq_false', decide_eq_true_eq]; omega) | (with_reducible assumption) | (rw [decide_eq_false] <;> (first | omega | with_reducible rfl)) | (rw [decide_eq_true] <;> (first | omega | with_reducible rfl)) | (simp; done) | (simp; omega)) ?_)
   | refine c_cond rfl (fun hc => ?_) (fun hc => ?_)
   | refine c_condb rfl (fun hc => ?_) (fun hc => ?_)))
   | refine x_then ?_
   | refine x_then_ret ?_
   | refine x_then_exit ?_
   | refine x_block _ ?_
   | refine x_block_ret _ ?_
   | refine x_block_exit _ ?_
   | refine x_block_past (by decide) ?_
   | refine z_tailm ?_)
   | (refine z_isnil ?_; first
   | refine z_list ?_
   | refine z_mixed ?_
   | refine z_mono0 ?_
   | refine z_mono1 (by decide) fun g => ?_
   | refine z_mono2 (by decide) (by decide) fun g g' => ?_
   | refine z_mixedx ?_
   | refine z_quiet ?_)
   | (refine z_isop ?_; first
   | refine o_boxa rfl rfl (by decide) fun g => ?_
   | refine o_alloca (e := 30) (vs := Sg.zero.cs) rfl (by kernel_rfl) (by decide) fun g => ?_
   | refine o_alloca (e := 26) (vs := Cx.zero.cs) rfl (by kernel_rfl) (by decide) fun g => ?_
   | (refine z_isload ?_; first
   | (refine z_ld1 tabOk rfl rfl ?_; first
   | refine o_loadm tabOk rfl rfl rfl (by repeat' (first | exact List.mem_cons_self | apply List.mem_cons_of_mem)) (by first | exact sg_w _ | exact sg_b _ | exact sg_h _ (by omega) | rfl) (by decide) ?_
   | refine o_loads tabOk (by first | assumption | exact Rds.cons _ (by assumption) | exact Rds.cons _ (Rds.cons _ (by assumption)) | exact own_rds 0 rfl | exact own_rds 1 rfl | exact own_rds 2 rfl) rfl rfl rfl (by first | exact sg_w _ | exact sg_b _ | exact sg_h _ (by omega) | rfl) (by decide) ?_)
   | (refine z_ldw tabOk rfl rfl ?_; first
   | refine o_loadwm tabOk rfl rfl rfl (by repeat' (first | exact List.mem_cons_self | apply List.mem_cons_of_mem)) (by first | exact sg_len _ | exact cx_len _ | (simp only [sg_len, cx_len]) | rfl) (by decide) ?_))
   | (refine z_isstore ?_; first
   | (refine z_stw rfl ?_; first
   | ((refine z_sti 0 rfl rfl ?_; refine o_storeb0 rfl tabOk rfl rfl rfl (by first | exact sg_len _ | exact cx_len _ | (simp only [sg_len, cx_len]) | rfl) (by first | exact sg_one _ | exact cx_one _ | rfl) (by first | exact sg_len _ | exact cx_len _ | (simp only [sg_len, cx_len]) | rfl) ?_))
   | ((refine z_sti 1 rfl rfl ?_; refine o_storeb1 rfl tabOk rfl rfl rfl (by first | exact sg_len _ | exact cx_len _ | (simp only [sg_len, cx_len]) | rfl) (by first | exact sg_one _ | exact cx_one _ | rfl) (by first | exact sg_len _ | exact cx_len _ | (simp only [sg_len, cx_len]) | rfl) ?_))
   | ((refine z_sti 2 rfl rfl ?_; refine o_storeb2 rfl tabOk rfl rfl rfl (by first | exact sg_len _ | exact cx_len _ | (simp only [sg_len, cx_len]) | rfl) (by first | exact sg_one _ | exact cx_one _ | rfl) (by first | exact sg_len _ | exact cx_len _ | (simp only [sg_len, cx_len]) | rfl) ?_))
   | ((refine z_sti 3 rfl rfl ?_; refine o_storeb3 rfl tabOk rfl rfl rfl (by first | exact sg_len _ | exact cx_len _ | (simp only [sg_len, cx_len]) | rfl) (by first | exact sg_one _ | exact cx_one _ | rfl) (by first | exact sg_len _ | exact cx_len _ | (simp only [sg_len, cx_len]) | rfl) ?_))
   | ((refine z_sti 4 rfl rfl ?_; refine o_storeb4 rfl tabOk rfl rfl rfl (by first | exact sg_len _ | exact cx_len _ | (simp only [sg_len, cx_len]) | rfl) (by first | exact sg_one _ | exact cx_one _ | rfl) (by first | exact sg_len _ | exact cx_len _ | (simp only [sg_len, cx_len]) | rfl) ?_))
   | ((refine z_sti 5 rfl rfl ?_; refine o_storeb5 rfl tabOk rfl rfl rfl (by first | exact sg_len _ | exact cx_len _ | (simp only [sg_len, cx_len]) | rfl) (by first | exact sg_one _ | exact cx_one _ | rfl) (by first | exact sg_len _ | exact cx_len _ | (simp only [sg_len, cx_len]) | rfl) ?_))
   | ((refine z_sti 6 rfl rfl ?_; refine o_storeb6 rfl tabOk rfl rfl rfl (by first | exact sg_len _ | exact cx_len _ | (simp only [sg_len, cx_len]) | rfl) (by first | exact sg_one _ | exact cx_one _ | rfl) (by first | exact sg_len _ | exact cx_len _ | (simp only [sg_len, cx_len]) | rfl) ?_)))
   | (refine z_st1 rfl rfl ?_; first
   | refine o_store rfl tabOk rfl rfl rfl rfl rfl (by first | exact sg_w _ | exact sg_b _ | exact sg_h _ (by omega) | rfl) (by first | exact sg_set_w _ _ | exact sg_set_b _ _ | exact sg_set_h _ (by omega) _ | rfl) ?_
   | ((refine z_sti 1 rfl rfl ?_; refine o_store1 rfl tabOk rfl rfl rfl rfl rfl (by first | exact sg_w _ | exact sg_b _ | exact sg_h _ (by omega) | rfl) (by first | exact sg_set_w _ _ | exact sg_set_b _ _ | exact sg_set_h _ (by omega) _ | rfl) ?_))
   | ((refine z_sti 2 rfl rfl ?_; refine o_store2 rfl tabOk rfl rfl rfl rfl rfl (by first | exact sg_w _ | exact sg_b _ | exact sg_h _ (by omega) | rfl) (by first | exact sg_set_w _ _ | exact sg_set_b _ _ | exact sg_set_h _ (by omega) _ | rfl) ?_))
   | ((refine z_sti 3 rfl rfl ?_; refine o_store3 rfl tabOk rfl rfl rfl rfl rfl (by first | exact sg_w _ | exact sg_b _ | exact sg_h _ (by omega) | rfl) (by first | exact sg_set_w _ _ | exact sg_set_b _ _ | exact sg_set_h _ (by omega) _ | rfl) ?_))
   | ((refine z_sti 4 rfl rfl ?_; refine o_store4 rfl tabOk rfl rfl rfl rfl rfl (by first | exact sg_w _ | exact sg_b _ | exact sg_h _ (by omega) | rfl) (by first | exact sg_set_w _ _ | exact sg_set_b _ _ | exact sg_set_h _ (by omega) _ | rfl) ?_))
   | ((refine z_sti 5 rfl rfl ?_; refine o_store5 rfl tabOk rfl rfl rfl rfl rfl (by first | exact sg_w _ | exact sg_b _ | exact sg_h _ (by omega) | rfl) (by first | exact sg_set_w _ _ | exact sg_set_b _ _ | exact sg_set_h _ (by omega) _ | rfl) ?_))
   | ((refine z_sti 6 rfl rfl ?_; refine o_store6 rfl tabOk rfl rfl rfl rfl rfl (by first | exact sg_w _ | exact sg_b _ | exact sg_h _ (by omega) | rfl) (by first | exact sg_set_w _ _ | exact sg_set_b _ _ | exact sg_set_h _ (by omega) _ | rfl) ?_))))
   | (refine z_iscall ?_; first
   | ((refine z_iscallf 21 ?_; refine o_fn rfl Tryd.func21 rfl rfl rfl (in_fn _) (by decide) ?_)))
   | refine o_move rfl (by decide) ?_
   | refine o_assign rfl (by decide) ?_
   | refine o_nil rfl (by decide) ?_
   | refine o_extract rfl rfl (by decide) ?_
   | refine o_not rfl (by decide) ?_
   | refine o_field0 tabOk rfl rfl rfl rfl rfl (by decide) ?_
   | refine o_field tabOk rfl rfl rfl rfl rfl (by decide) ?_
   | refine o_conv tabOk rfl rfl rfl (by decide) ?_))
/-- The state in which a signal waits. -/
def Sg.raise (s : Sg) (i : Int) : Sg := if 1 ≤ i ∧ i ≤ 8 then { s with w := bitv .or .u16 s.w (shlv .u16 1 i) } else s
theorem raise_fn (s : Sg) (i : Int) : Pf Tryd.prog 9 [.agg s.cs.toArray, .int .i64 i] (.tuple #[.agg (s.raise i).cs.toArray, .int .i64 (if 1 ≤ i ∧ i ≤ 8 then 0 else 1)]) := by
  intro w hw
  refine f_enter Tryd.func9 rfl Tryd.ntmps9 rfl hw ?_
  unfold Sg.raise
  by_cases h : 1 ≤ i ∧ i ≤ 8
  · rw [if_pos h, if_pos h]
    repeat' (first
     | (refine s_is ?_; first
     | (refine s_isret ?_; first
     | exact p_r2 rfl (res_c tabOk rfl rfl rfl 0 rfl (sg_len _)) (res_t rfl) rfl)
     | (refine s_isw ?_; first
     | refine c_seq ?_
     | refine c_block ?_
     | refine c_region ?_
     | refine c_mixed mixed (by kernel_rfl) ?_
     | refine c_skip ?_
     | refine c_ret ?_
     | refine c_exit ?_
     | (refine s_iscond ?_; first
     | (refine c_true rfl (by first | with_reducible rfl | with_reducible assumption | ((with_reducible refine decide_eq_true ?_); first | with_reducible rfl | with_reducible assumption | omega)) ?_)
     | (refine c_false rfl (by first | with_reducible rfl | with_reducible assumption | ((with_reducible refine decide_eq_false ?_); first | with_reducible assumption | omega)) ?_)
     | (refine c_true rfl (by first | (simp only [Bool.not_eq_true', decide_eq_false_iff_not]; omega) | (with_reducible assumption) | (rw [decide_eq_false] <;> (first | omega | with_reducible rfl)) | (rw [decide_eq_true] <;> (first | omega | with_reducible rfl)) | (simp; done) | (simp; omega)) ?_)
     | (refine c_false rfl (by first | (simp only [Bool.not_eq_false', decide_eq_true_eq]; omega) | (with_reducible assumption) | (rw [decide_eq_false] <;> (first | omega | with_reducible rfl)) | (rw [decide_eq_true] <;> (first | omega | with_reducible rfl)) | (simp; done) | (simp; omega)) ?_)
     | refine c_cond rfl (fun hc => ?_) (fun hc => ?_)
     | refine c_condb rfl (fun hc => ?_) (fun hc => ?_)))
     | refine x_then ?_
     | refine x_then_ret ?_
     | refine x_then_exit ?_
     | refine x_block _ ?_
     | refine x_block_ret _ ?_
     | refine x_block_exit _ ?_
     | refine x_block_past (by decide) ?_
     | refine z_tailm ?_)
     | (refine z_isnil ?_; first
     | refine z_list ?_
     | refine z_mixed ?_
     | refine z_mono0 ?_
     | refine z_mono1 (by decide) fun g => ?_
     | refine z_mono2 (by decide) (by decide) fun g g' => ?_
     | refine z_mixedx ?_
     | refine z_quiet ?_)
     | (refine z_isop ?_; first
     | refine o_boxa rfl rfl (by decide) fun g => ?_
     | refine o_alloca (e := 30) (vs := Sg.zero.cs) rfl (by kernel_rfl) (by decide) fun g => ?_
     | refine o_alloca (e := 26) (vs := Cx.zero.cs) rfl (by kernel_rfl) (by decide) fun g => ?_
     | (refine z_isbin ?_; first
     | (refine z_isb .or ?_; first
     | refine o_or rfl rfl (by decide) ?_)
     | (refine z_isb .shl ?_; first
     | refine o_shl rfl rfl (by omega) (by decide) ?_))
     | (refine z_isload ?_; first
     | (refine z_ld1 tabOk rfl rfl ?_; first
     | refine o_loadm tabOk rfl rfl rfl (by repeat' (first | exact List.mem_cons_self | apply List.mem_cons_of_mem)) (by first | exact sg_w _ | exact sg_b _ | exact sg_h _ (by omega) | rfl) (by decide) ?_
     | refine o_loads tabOk (by first | assumption | exact Rds.cons _ (by assumption) | exact Rds.cons _ (Rds.cons _ (by assumption)) | exact own_rds 0 rfl | exact own_rds 1 rfl | exact own_rds 2 rfl) rfl rfl rfl (by first | exact sg_w _ | exact sg_b _ | exact sg_h _ (by omega) | rfl) (by decide) ?_)
     | (refine z_ldw tabOk rfl rfl ?_; first
     | refine o_loadwm tabOk rfl rfl rfl (by repeat' (first | exact List.mem_cons_self | apply List.mem_cons_of_mem)) (by first | exact sg_len _ | exact cx_len _ | (simp only [sg_len, cx_len]) | rfl) (by decide) ?_))
     | (refine z_isstore ?_; first
     | (refine z_stw rfl ?_; first
     | ((refine z_sti 0 rfl rfl ?_; refine o_storeb0 rfl tabOk rfl rfl rfl (by first | exact sg_len _ | exact cx_len _ | (simp only [sg_len, cx_len]) | rfl) (by first | exact sg_one _ | exact cx_one _ | rfl) (by first | exact sg_len _ | exact cx_len _ | (simp only [sg_len, cx_len]) | rfl) ?_))
     | ((refine z_sti 1 rfl rfl ?_; refine o_storeb1 rfl tabOk rfl rfl rfl (by first | exact sg_len _ | exact cx_len _ | (simp only [sg_len, cx_len]) | rfl) (by first | exact sg_one _ | exact cx_one _ | rfl) (by first | exact sg_len _ | exact cx_len _ | (simp only [sg_len, cx_len]) | rfl) ?_))
     | ((refine z_sti 2 rfl rfl ?_; refine o_storeb2 rfl tabOk rfl rfl rfl (by first | exact sg_len _ | exact cx_len _ | (simp only [sg_len, cx_len]) | rfl) (by first | exact sg_one _ | exact cx_one _ | rfl) (by first | exact sg_len _ | exact cx_len _ | (simp only [sg_len, cx_len]) | rfl) ?_))
     | ((refine z_sti 3 rfl rfl ?_; refine o_storeb3 rfl tabOk rfl rfl rfl (by first | exact sg_len _ | exact cx_len _ | (simp only [sg_len, cx_len]) | rfl) (by first | exact sg_one _ | exact cx_one _ | rfl) (by first | exact sg_len _ | exact cx_len _ | (simp only [sg_len, cx_len]) | rfl) ?_))
     | ((refine z_sti 4 rfl rfl ?_; refine o_storeb4 rfl tabOk rfl rfl rfl (by first | exact sg_len _ | exact cx_len _ | (simp only [sg_len, cx_len]) | rfl) (by first | exact sg_one _ | exact cx_one _ | rfl) (by first | exact sg_len _ | exact cx_len _ | (simp only [sg_len, cx_len]) | rfl) ?_))
     | ((refine z_sti 5 rfl rfl ?_; refine o_storeb5 rfl tabOk rfl rfl rfl (by first | exact sg_len _ | exact cx_len _ | (simp only [sg_len, cx_len]) | rfl) (by first | exact sg_one _ | exact cx_one _ | rfl) (by first | exact sg_len _ | exact cx_len _ | (simp only [sg_len, cx_len]) | rfl) ?_))
     | ((refine z_sti 6 rfl rfl ?_; refine o_storeb6 rfl tabOk rfl rfl rfl (by first | exact sg_len _ | exact cx_len _ | (simp only [sg_len, cx_len]) | rfl) (by first | exact sg_one _ | exact cx_one _ | rfl) (by first | exact sg_len _ | exact cx_len _ | (simp only [sg_len, cx_len]) | rfl) ?_)))
     | (refine z_st1 rfl rfl ?_; first
     | refine o_store rfl tabOk rfl rfl rfl rfl rfl (by first | exact sg_w _ | exact sg_b _ | exact sg_h _ (by omega) | rfl) (by first | exact sg_set_w _ _ | exact sg_set_b _ _ | exact sg_set_h _ (by omega) _ | rfl) ?_
     | ((refine z_sti 1 rfl rfl ?_; refine o_store1 rfl tabOk rfl rfl rfl rfl rfl (by first | exact sg_w _ | exact sg_b _ | exact sg_h _ (by omega) | rfl) (by first | exact sg_set_w _ _ | exact sg_set_b _ _ | exact sg_set_h _ (by omega) _ | rfl) ?_))
     | ((refine z_sti 2 rfl rfl ?_; refine o_store2 rfl tabOk rfl rfl rfl rfl rfl (by first | exact sg_w _ | exact sg_b _ | exact sg_h _ (by omega) | rfl) (by first | exact sg_set_w _ _ | exact sg_set_b _ _ | exact sg_set_h _ (by omega) _ | rfl) ?_))
     | ((refine z_sti 3 rfl rfl ?_; refine o_store3 rfl tabOk rfl rfl rfl rfl rfl (by first | exact sg_w _ | exact sg_b _ | exact sg_h _ (by omega) | rfl) (by first | exact sg_set_w _ _ | exact sg_set_b _ _ | exact sg_set_h _ (by omega) _ | rfl) ?_))
     | ((refine z_sti 4 rfl rfl ?_; refine o_store4 rfl tabOk rfl rfl rfl rfl rfl (by first | exact sg_w _ | exact sg_b _ | exact sg_h _ (by omega) | rfl) (by first | exact sg_set_w _ _ | exact sg_set_b _ _ | exact sg_set_h _ (by omega) _ | rfl) ?_))
     | ((refine z_sti 5 rfl rfl ?_; refine o_store5 rfl tabOk rfl rfl rfl rfl rfl (by first | exact sg_w _ | exact sg_b _ | exact sg_h _ (by omega) | rfl) (by first | exact sg_set_w _ _ | exact sg_set_b _ _ | exact sg_set_h _ (by omega) _ | rfl) ?_))
     | ((refine z_sti 6 rfl rfl ?_; refine o_store6 rfl tabOk rfl rfl rfl rfl rfl (by first | exact sg_w _ | exact sg_b _ | exact sg_h _ (by omega) | rfl) (by first | exact sg_set_w _ _ | exact sg_set_b _ _ | exact sg_set_h _ (by omega) _ | rfl) ?_))))
     | (refine z_iscall ?_; first
     | ((refine z_iscallf 21 ?_; refine o_fn rfl Tryd.func21 rfl rfl rfl (in_fn _) (by decide) ?_)))
     | refine o_move rfl (by decide) ?_
     | refine o_assign rfl (by decide) ?_
     | refine o_nil rfl (by decide) ?_
     | refine o_extract rfl rfl (by decide) ?_
     | refine o_not rfl (by decide) ?_
     | refine o_field0 tabOk rfl rfl rfl rfl rfl (by decide) ?_
     | refine o_field tabOk rfl rfl rfl rfl rfl (by decide) ?_
     | refine o_conv tabOk rfl rfl rfl (by decide) ?_))
  · rw [if_neg h, if_neg h]
    repeat' (first
     | (refine s_is ?_; first
     | (refine s_isret ?_; first
     | exact p_r2 rfl (res_c tabOk rfl rfl rfl 0 rfl (sg_len _)) (res_t rfl) rfl)
     | (refine s_isw ?_; first
     | refine c_seq ?_
     | refine c_block ?_
     | refine c_region ?_
     | refine c_mixed mixed (by kernel_rfl) ?_
     | refine c_skip ?_
     | refine c_ret ?_
     | refine c_exit ?_
     | (refine s_iscond ?_; first
     | (refine c_true rfl (by first | with_reducible rfl | with_reducible assumption | ((with_reducible refine decide_eq_true ?_); first | with_reducible rfl | with_reducible assumption | omega)) ?_)
     | (refine c_false rfl (by first | with_reducible rfl | with_reducible assumption | ((with_reducible refine decide_eq_false ?_); first | with_reducible assumption | omega)) ?_)
     | (refine c_true rfl (by first | (simp only [Bool.not_eq_true', decide_eq_false_iff_not]; omega) | (with_reducible assumption) | (rw [decide_eq_false] <;> (first | omega | with_reducible rfl)) | (rw [decide_eq_true] <;> (first | omega | with_reducible rfl)) | (simp; done) | (simp; omega)) ?_)
     | (refine c_false rfl (by first | (simp only [Bool.not_eq_false', decide_eq_true_eq]; omega) | (with_reducible assumption) | (rw [decide_eq_false] <;> (first | omega | with_reducible rfl)) | (rw [decide_eq_true] <;> (first | omega | with_reducible rfl)) | (simp; done) | (simp; omega)) ?_)
     | refine c_cond rfl (fun hc => ?_) (fun hc => ?_)
     | refine c_condb rfl (fun hc => ?_) (fun hc => ?_)))
     | refine x_then ?_
     | refine x_then_ret ?_
     | refine x_then_exit ?_
     | refine x_block _ ?_
     | refine x_block_ret _ ?_
     | refine x_block_exit _ ?_
     | refine x_block_past (by decide) ?_
     | refine z_tailm ?_)
     | (refine z_isnil ?_; first
     | refine z_list ?_
     | refine z_mixed ?_
     | refine z_mono0 ?_
     | refine z_mono1 (by decide) fun g => ?_
     | refine z_mono2 (by decide) (by decide) fun g g' => ?_
     | refine z_mixedx ?_
     | refine z_quiet ?_)
     | (refine z_isop ?_; first
     | refine o_boxa rfl rfl (by decide) fun g => ?_
     | refine o_alloca (e := 30) (vs := Sg.zero.cs) rfl (by kernel_rfl) (by decide) fun g => ?_
     | refine o_alloca (e := 26) (vs := Cx.zero.cs) rfl (by kernel_rfl) (by decide) fun g => ?_
     | (refine z_isbin ?_; first
     | (refine z_isb .or ?_; first
     | refine o_or rfl rfl (by decide) ?_)
     | (refine z_isb .shl ?_; first
     | refine o_shl rfl rfl (by omega) (by decide) ?_))
     | (refine z_isload ?_; first
     | (refine z_ld1 tabOk rfl rfl ?_; first
     | refine o_loadm tabOk rfl rfl rfl (by repeat' (first | exact List.mem_cons_self | apply List.mem_cons_of_mem)) (by first | exact sg_w _ | exact sg_b _ | exact sg_h _ (by omega) | rfl) (by decide) ?_
     | refine o_loads tabOk (by first | assumption | exact Rds.cons _ (by assumption) | exact Rds.cons _ (Rds.cons _ (by assumption)) | exact own_rds 0 rfl | exact own_rds 1 rfl | exact own_rds 2 rfl) rfl rfl rfl (by first | exact sg_w _ | exact sg_b _ | exact sg_h _ (by omega) | rfl) (by decide) ?_)
     | (refine z_ldw tabOk rfl rfl ?_; first
     | refine o_loadwm tabOk rfl rfl rfl (by repeat' (first | exact List.mem_cons_self | apply List.mem_cons_of_mem)) (by first | exact sg_len _ | exact cx_len _ | (simp only [sg_len, cx_len]) | rfl) (by decide) ?_))
     | (refine z_isstore ?_; first
     | (refine z_stw rfl ?_; first
     | ((refine z_sti 0 rfl rfl ?_; refine o_storeb0 rfl tabOk rfl rfl rfl (by first | exact sg_len _ | exact cx_len _ | (simp only [sg_len, cx_len]) | rfl) (by first | exact sg_one _ | exact cx_one _ | rfl) (by first | exact sg_len _ | exact cx_len _ | (simp only [sg_len, cx_len]) | rfl) ?_))
     | ((refine z_sti 1 rfl rfl ?_; refine o_storeb1 rfl tabOk rfl rfl rfl (by first | exact sg_len _ | exact cx_len _ | (simp only [sg_len, cx_len]) | rfl) (by first | exact sg_one _ | exact cx_one _ | rfl) (by first | exact sg_len _ | exact cx_len _ | (simp only [sg_len, cx_len]) | rfl) ?_))
     | ((refine z_sti 2 rfl rfl ?_; refine o_storeb2 rfl tabOk rfl rfl rfl (by first | exact sg_len _ | exact cx_len _ | (simp only [sg_len, cx_len]) | rfl) (by first | exact sg_one _ | exact cx_one _ | rfl) (by first | exact sg_len _ | exact cx_len _ | (simp only [sg_len, cx_len]) | rfl) ?_))
     | ((refine z_sti 3 rfl rfl ?_; refine o_storeb3 rfl tabOk rfl rfl rfl (by first | exact sg_len _ | exact cx_len _ | (simp only [sg_len, cx_len]) | rfl) (by first | exact sg_one _ | exact cx_one _ | rfl) (by first | exact sg_len _ | exact cx_len _ | (simp only [sg_len, cx_len]) | rfl) ?_))
     | ((refine z_sti 4 rfl rfl ?_; refine o_storeb4 rfl tabOk rfl rfl rfl (by first | exact sg_len _ | exact cx_len _ | (simp only [sg_len, cx_len]) | rfl) (by first | exact sg_one _ | exact cx_one _ | rfl) (by first | exact sg_len _ | exact cx_len _ | (simp only [sg_len, cx_len]) | rfl) ?_))
     | ((refine z_sti 5 rfl rfl ?_; refine o_storeb5 rfl tabOk rfl rfl rfl (by first | exact sg_len _ | exact cx_len _ | (simp only [sg_len, cx_len]) | rfl) (by first | exact sg_one _ | exact cx_one _ | rfl) (by first | exact sg_len _ | exact cx_len _ | (simp only [sg_len, cx_len]) | rfl) ?_))
     | ((refine z_sti 6 rfl rfl ?_; refine o_storeb6 rfl tabOk rfl rfl rfl (by first | exact sg_len _ | exact cx_len _ | (simp only [sg_len, cx_len]) | rfl) (by first | exact sg_one _ | exact cx_one _ | rfl) (by first | exact sg_len _ | exact cx_len _ | (simp only [sg_len, cx_len]) | rfl) ?_)))
     | (refine z_st1 rfl rfl ?_; first
     | refine o_store rfl tabOk rfl rfl rfl rfl rfl (by first | exact sg_w _ | exact sg_b _ | exact sg_h _ (by omega) | rfl) (by first | exact sg_set_w _ _ | exact sg_set_b _ _ | exact sg_set_h _ (by omega) _ | rfl) ?_
     | ((refine z_sti 1 rfl rfl ?_; refine o_store1 rfl tabOk rfl rfl rfl rfl rfl (by first | exact sg_w _ | exact sg_b _ | exact sg_h _ (by omega) | rfl) (by first | exact sg_set_w _ _ | exact sg_set_b _ _ | exact sg_set_h _ (by omega) _ | rfl) ?_))
     | ((refine z_sti 2 rfl rfl ?_; refine o_store2 rfl tabOk rfl rfl rfl rfl rfl (by first | exact sg_w _ | exact sg_b _ | exact sg_h _ (by omega) | rfl) (by first | exact sg_set_w _ _ | exact sg_set_b _ _ | exact sg_set_h _ (by omega) _ | rfl) ?_))
     | ((refine z_sti 3 rfl rfl ?_; refine o_store3 rfl tabOk rfl rfl rfl rfl rfl (by first | exact sg_w _ | exact sg_b _ | exact sg_h _ (by omega) | rfl) (by first | exact sg_set_w _ _ | exact sg_set_b _ _ | exact sg_set_h _ (by omega) _ | rfl) ?_))
     | ((refine z_sti 4 rfl rfl ?_; refine o_store4 rfl tabOk rfl rfl rfl rfl rfl (by first | exact sg_w _ | exact sg_b _ | exact sg_h _ (by omega) | rfl) (by first | exact sg_set_w _ _ | exact sg_set_b _ _ | exact sg_set_h _ (by omega) _ | rfl) ?_))
     | ((refine z_sti 5 rfl rfl ?_; refine o_store5 rfl tabOk rfl rfl rfl rfl rfl (by first | exact sg_w _ | exact sg_b _ | exact sg_h _ (by omega) | rfl) (by first | exact sg_set_w _ _ | exact sg_set_b _ _ | exact sg_set_h _ (by omega) _ | rfl) ?_))
     | ((refine z_sti 6 rfl rfl ?_; refine o_store6 rfl tabOk rfl rfl rfl rfl rfl (by first | exact sg_w _ | exact sg_b _ | exact sg_h _ (by omega) | rfl) (by first | exact sg_set_w _ _ | exact sg_set_b _ _ | exact sg_set_h _ (by omega) _ | rfl) ?_))))
     | (refine z_iscall ?_; first
     | ((refine z_iscallf 21 ?_; refine o_fn rfl Tryd.func21 rfl rfl rfl (in_fn _) (by decide) ?_)))
     | refine o_move rfl (by decide) ?_
     | refine o_assign rfl (by decide) ?_
     | refine o_nil rfl (by decide) ?_
     | refine o_extract rfl rfl (by decide) ?_
     | refine o_not rfl (by decide) ?_
     | refine o_field0 tabOk rfl rfl rfl rfl rfl (by decide) ?_
     | refine o_field tabOk rfl rfl rfl rfl rfl (by decide) ?_
     | refine o_conv tabOk rfl rfl rfl (by decide) ?_))
/-- Does a signal wait? -/
def Sg.waits (s : Sg) (i : Int) : Bool := decide (1 ≤ i ∧ i ≤ 8) && decide (bitv .and .u16 (shrv .u16 s.w i) 1 = 1)
theorem waits_fn (s : Sg) (i : Int) : Pf Tryd.prog 10 [.agg s.cs.toArray, .int .i64 i] (.bool (s.waits i)) := by
  intro w hw
  refine f_enter Tryd.func10 rfl Tryd.ntmps10 rfl hw ?_
  unfold Sg.waits
  repeat' (first
   | (refine s_is ?_; first
   | (refine s_isret ?_; first
   | (exact p_r1 rfl (res_t (by show some (Value.bool _) = some (Value.bool _); simp [*]))))
   | (refine s_isw ?_; first
   | refine c_seq ?_
   | refine c_block ?_
   | refine c_region ?_
   | refine c_mixed mixed (by kernel_rfl) ?_
   | refine c_skip ?_
   | refine c_ret ?_
   | refine c_exit ?_
   | (refine s_iscond ?_; first
   | (refine c_true rfl (by first | with_reducible rfl | with_reducible assumption | ((with_reducible refine decide_eq_true ?_); first | with_reducible rfl | with_reducible assumption | omega)) ?_)
   | (refine c_false rfl (by first | with_reducible rfl | with_reducible assumption | ((with_reducible refine decide_eq_false ?_); first | with_reducible assumption | omega)) ?_)
   | (refine c_true rfl (by first | (simp only [Bool.not_eq_true', decide_eq_false_iff_not]; omega) | (with_reducible assumption) | (rw [decide_eq_false] <;> (first | omega | with_reducible rfl)) | (rw [decide_eq_true] <;> (first | omega | with_reducible rfl)) | (simp; done) | (simp; omega)) ?_)
   | (refine c_false rfl (by first | (simp only [Bool.not_eq_false', decide_eq_true_eq]; omega) | (with_reducible assumption) | (rw [decide_eq_false] <;> (first | omega | with_reducible rfl)) | (rw [decide_eq_true] <;> (first | omega | with_reducible rfl)) | (simp; done) | (simp; omega)) ?_)
   | refine c_cond rfl (fun hc => ?_) (fun hc => ?_)
   | refine c_condb rfl (fun hc => ?_) (fun hc => ?_)))
   | refine x_then ?_
   | refine x_then_ret ?_
   | refine x_then_exit ?_
   | refine x_block _ ?_
   | refine x_block_ret _ ?_
   | refine x_block_exit _ ?_
   | refine x_block_past (by decide) ?_
   | refine z_tailm ?_)
   | (refine z_isg1 ?_; first
   | refine z_skipu (by decide) rfl rfl ?_
   | (refine z_want1 rfl rfl (by first | with_reducible rfl | with_reducible assumption | ((with_reducible refine decide_eq_true ?_); first | with_reducible rfl | with_reducible assumption | omega)) ?_)
   | (refine z_skip1 (by decide) rfl rfl (by first | with_reducible rfl | with_reducible assumption | ((with_reducible refine decide_eq_false ?_); first | with_reducible assumption | omega)) ?_)
   | (refine z_want1 rfl rfl (by first | (simp only [Bool.not_eq_true', decide_eq_false_iff_not]; omega) | (with_reducible assumption) | (rw [decide_eq_false] <;> (first | omega | with_reducible rfl)) | (rw [decide_eq_true] <;> (first | omega | with_reducible rfl)) | (simp; done) | (simp; omega)) ?_)
   | (refine z_skip1 (by decide) rfl rfl (by first | (simp only [Bool.not_eq_false', decide_eq_true_eq]; omega) | (with_reducible assumption) | (rw [decide_eq_false] <;> (first | omega | with_reducible rfl)) | (rw [decide_eq_true] <;> (first | omega | with_reducible rfl)) | (simp; done) | (simp; omega)) ?_)
   | refine z_guard1 (by decide) rfl rfl (fun hc => ?_) (fun hc => ?_)
   | refine z_guardb (by decide) rfl rfl (fun hc => ?_) (fun hc => ?_))
   | (refine z_isnil ?_; first
   | refine z_list ?_
   | refine z_mixed ?_
   | refine z_mono0 ?_
   | refine z_mono1 (by decide) fun g => ?_
   | refine z_mono2 (by decide) (by decide) fun g g' => ?_
   | refine z_mixedx ?_
   | refine z_quiet ?_)
   | (refine z_isop ?_; first
   | refine o_boxa rfl rfl (by decide) fun g => ?_
   | refine o_alloca (e := 30) (vs := Sg.zero.cs) rfl (by kernel_rfl) (by decide) fun g => ?_
   | refine o_alloca (e := 26) (vs := Cx.zero.cs) rfl (by kernel_rfl) (by decide) fun g => ?_
   | (refine z_isbin ?_; first
   | (refine z_isb .eql ?_; first
   | refine o_eq rfl rfl (by decide) ?_
   | refine o_beq tabOk rfl rfl rfl (by decide) ?_
   | refine o_peq tabOk rfl rfl (by decide) ?_)
   | (refine z_isb .and ?_; first
   | refine o_and rfl rfl (by decide) ?_)
   | (refine z_isb .shr ?_; first
   | refine o_shr rfl rfl (by omega) (by decide) ?_))
   | (refine z_isload ?_; first
   | (refine z_ld1 tabOk rfl rfl ?_; first
   | refine o_loadm tabOk rfl rfl rfl (by repeat' (first | exact List.mem_cons_self | apply List.mem_cons_of_mem)) (by first | exact sg_w _ | exact sg_b _ | exact sg_h _ (by omega) | rfl) (by decide) ?_
   | refine o_loads tabOk (by first | assumption | exact Rds.cons _ (by assumption) | exact Rds.cons _ (Rds.cons _ (by assumption)) | exact own_rds 0 rfl | exact own_rds 1 rfl | exact own_rds 2 rfl) rfl rfl rfl (by first | exact sg_w _ | exact sg_b _ | exact sg_h _ (by omega) | rfl) (by decide) ?_)
   | (refine z_ldw tabOk rfl rfl ?_; first
   | refine o_loadwm tabOk rfl rfl rfl (by repeat' (first | exact List.mem_cons_self | apply List.mem_cons_of_mem)) (by first | exact sg_len _ | exact cx_len _ | (simp only [sg_len, cx_len]) | rfl) (by decide) ?_))
   | (refine z_iscall ?_; first
   | ((refine z_iscallf 21 ?_; refine o_fn rfl Tryd.func21 rfl rfl rfl (in_fn _) (by decide) ?_)))
   | (refine z_ispick ?_; first
   | (refine o_pick1 rfl (by first | with_reducible rfl | with_reducible assumption | ((with_reducible refine decide_eq_true ?_); first | with_reducible rfl | with_reducible assumption | omega)) rfl (by decide) ?_)
   | (refine o_pick0 rfl (by first | with_reducible rfl | with_reducible assumption | ((with_reducible refine decide_eq_false ?_); first | with_reducible assumption | omega)) rfl (by decide) ?_)
   | (refine o_pick1 rfl (by first | (simp only [Bool.not_eq_true', decide_eq_false_iff_not]; omega) | (with_reducible assumption) | (rw [decide_eq_false] <;> (first | omega | with_reducible rfl)) | (rw [decide_eq_true] <;> (first | omega | with_reducible rfl)) | (simp; done) | (simp; omega)) rfl (by decide) ?_)
   | (refine o_pick0 rfl (by first | (simp only [Bool.not_eq_false', decide_eq_true_eq]; omega) | (with_reducible assumption) | (rw [decide_eq_false] <;> (first | omega | with_reducible rfl)) | (rw [decide_eq_true] <;> (first | omega | with_reducible rfl)) | (simp; done) | (simp; omega)) rfl (by decide) ?_))
   | refine o_move rfl (by decide) ?_
   | refine o_assign rfl (by decide) ?_
   | refine o_nil rfl (by decide) ?_
   | refine o_extract rfl rfl (by decide) ?_
   | refine o_not rfl (by decide) ?_
   | refine o_field0 tabOk rfl rfl rfl rfl rfl (by decide) ?_
   | refine o_field tabOk rfl rfl rfl rfl rfl (by decide) ?_
   | refine o_conv tabOk rfl rfl rfl (by decide) ?_))
def Sg.setOk (i a : Int) : Bool := decide (2 ≤ i ∧ i ≤ 8 ∧ a % 4 = 0)
theorem set_yes (s : Sg) (i a : Int) (h : 2 ≤ i ∧ i ≤ 8) (h0 : 0 ≤ a) (h4 : a % 4 = 0) : Pf Tryd.prog 12 [.agg s.cs.toArray, .int .i64 i, .int .u32 a] (.tuple #[.agg ({ s with h := upd s.h i.toNat a } : Sg).cs.toArray, .int .u32 (s.h i.toNat), .int .i64 0]) := by
  intro w hw
  refine f_enter Tryd.func12 rfl Tryd.ntmps12 rfl hw ?_
  repeat' (first
   | (refine s_is ?_; first
   | (refine s_isret ?_; first
   | exact p_r3 rfl (res_c tabOk rfl rfl rfl 0 rfl (sg_len _)) (res_t rfl) (res_t rfl) rfl)
   | (refine s_isw ?_; first
   | refine c_seq ?_
   | refine c_block ?_
   | refine c_region ?_
   | refine c_mixed mixed (by kernel_rfl) ?_
   | refine c_skip ?_
   | refine c_ret ?_
   | refine c_exit ?_
   | (refine s_iscond ?_; first
   | (refine c_true rfl (by first | with_reducible rfl | with_reducible assumption | ((with_reducible refine decide_eq_true ?_); first | with_reducible rfl | with_reducible assumption | omega)) ?_)
   | (refine c_false rfl (by first | with_reducible rfl | with_reducible assumption | ((with_reducible refine decide_eq_false ?_); first | with_reducible assumption | omega)) ?_)
   | (refine c_true rfl (by first | (simp only [Bool.not_eq_true', decide_eq_false_iff_not]; omega) | (with_reducible assumption) | (rw [decide_eq_false] <;> (first | omega | with_reducible rfl)) | (rw [decide_eq_true] <;> (first | omega | with_reducible rfl)) | (simp; done) | (simp; omega)) ?_)
   | (refine c_false rfl (by first | (simp only [Bool.not_eq_false', decide_eq_true_eq]; omega) | (with_reducible assumption) | (rw [decide_eq_false] <;> (first | omega | with_reducible rfl)) | (rw [decide_eq_true] <;> (first | omega | with_reducible rfl)) | (simp; done) | (simp; omega)) ?_)
   | refine c_cond rfl (fun hc => ?_) (fun hc => ?_)
   | refine c_condb rfl (fun hc => ?_) (fun hc => ?_)))
   | refine x_then ?_
   | refine x_then_ret ?_
   | refine x_then_exit ?_
   | refine x_block _ ?_
   | refine x_block_ret _ ?_
   | refine x_block_exit _ ?_
   | refine x_block_past (by decide) ?_
   | refine z_tailm ?_)
   | (refine z_isg0 ?_; first
   | refine z_skipu (by decide) rfl rfl ?_
   | (refine z_want0 rfl rfl (by first | with_reducible rfl | with_reducible assumption | ((with_reducible refine decide_eq_false ?_); first | with_reducible assumption | omega)) ?_)
   | (refine z_skip0 (by decide) rfl rfl (by first | with_reducible rfl | with_reducible assumption | ((with_reducible refine decide_eq_true ?_); first | with_reducible rfl | with_reducible assumption | omega)) ?_)
   | (refine z_want0 rfl rfl (by first | (simp only [Bool.not_eq_false', decide_eq_true_eq]; omega) | (with_reducible assumption) | (rw [decide_eq_false] <;> (first | omega | with_reducible rfl)) | (rw [decide_eq_true] <;> (first | omega | with_reducible rfl)) | (simp; done) | (simp; omega)) ?_)
   | (refine z_skip0 (by decide) rfl rfl (by first | (simp only [Bool.not_eq_true', decide_eq_false_iff_not]; omega) | (with_reducible assumption) | (rw [decide_eq_false] <;> (first | omega | with_reducible rfl)) | (rw [decide_eq_true] <;> (first | omega | with_reducible rfl)) | (simp; done) | (simp; omega)) ?_)
   | refine z_guard0 (by decide) rfl rfl (fun hc => ?_) (fun hc => ?_)
   | refine z_guardb (by decide) rfl rfl (fun hc => ?_) (fun hc => ?_))
   | (refine z_isnil ?_; first
   | refine z_list ?_
   | refine z_mixed ?_
   | refine z_mono0 ?_
   | refine z_mono1 (by decide) fun g => ?_
   | refine z_mono2 (by decide) (by decide) fun g g' => ?_
   | refine z_mixedx ?_
   | refine z_quiet ?_)
   | (refine z_isop ?_; first
   | refine o_boxa rfl rfl (by decide) fun g => ?_
   | refine o_alloca (e := 30) (vs := Sg.zero.cs) rfl (by kernel_rfl) (by decide) fun g => ?_
   | refine o_alloca (e := 26) (vs := Cx.zero.cs) rfl (by kernel_rfl) (by decide) fun g => ?_
   | (refine z_isbin ?_; first
   | (refine z_isb .eql ?_; first
   | refine o_eq rfl rfl (by decide) ?_
   | refine o_beq tabOk rfl rfl rfl (by decide) ?_
   | refine o_peq tabOk rfl rfl (by decide) ?_)
   | (refine z_isb .neq ?_; first
   | refine o_ne rfl rfl (by decide) ?_
   | refine o_bne tabOk rfl rfl rfl (by decide) ?_
   | refine o_pne tabOk rfl rfl (by decide) ?_)
   | (refine z_isb .rem ?_; first
   | refine o_rem rfl rfl (by omega) (by omega) (by decide) ?_
   | refine o_remk rfl rfl (by omega) (by omega) (by decide) ?_
   | refine o_remt rfl rfl (by omega) (by decide) ?_))
   | (refine z_isload ?_; first
   | (refine z_ld1 tabOk rfl rfl ?_; first
   | refine o_loadm tabOk rfl rfl rfl (by repeat' (first | exact List.mem_cons_self | apply List.mem_cons_of_mem)) (by first | exact sg_w _ | exact sg_b _ | exact sg_h _ (by omega) | rfl) (by decide) ?_
   | refine o_loads tabOk (by first | assumption | exact Rds.cons _ (by assumption) | exact Rds.cons _ (Rds.cons _ (by assumption)) | exact own_rds 0 rfl | exact own_rds 1 rfl | exact own_rds 2 rfl) rfl rfl rfl (by first | exact sg_w _ | exact sg_b _ | exact sg_h _ (by omega) | rfl) (by decide) ?_)
   | (refine z_ldw tabOk rfl rfl ?_; first
   | refine o_loadwm tabOk rfl rfl rfl (by repeat' (first | exact List.mem_cons_self | apply List.mem_cons_of_mem)) (by first | exact sg_len _ | exact cx_len _ | (simp only [sg_len, cx_len]) | rfl) (by decide) ?_))
   | (refine z_isstore ?_; first
   | (refine z_stw rfl ?_; first
   | ((refine z_sti 0 rfl rfl ?_; refine o_storeb0 rfl tabOk rfl rfl rfl (by first | exact sg_len _ | exact cx_len _ | (simp only [sg_len, cx_len]) | rfl) (by first | exact sg_one _ | exact cx_one _ | rfl) (by first | exact sg_len _ | exact cx_len _ | (simp only [sg_len, cx_len]) | rfl) ?_))
   | ((refine z_sti 1 rfl rfl ?_; refine o_storeb1 rfl tabOk rfl rfl rfl (by first | exact sg_len _ | exact cx_len _ | (simp only [sg_len, cx_len]) | rfl) (by first | exact sg_one _ | exact cx_one _ | rfl) (by first | exact sg_len _ | exact cx_len _ | (simp only [sg_len, cx_len]) | rfl) ?_))
   | ((refine z_sti 2 rfl rfl ?_; refine o_storeb2 rfl tabOk rfl rfl rfl (by first | exact sg_len _ | exact cx_len _ | (simp only [sg_len, cx_len]) | rfl) (by first | exact sg_one _ | exact cx_one _ | rfl) (by first | exact sg_len _ | exact cx_len _ | (simp only [sg_len, cx_len]) | rfl) ?_))
   | ((refine z_sti 3 rfl rfl ?_; refine o_storeb3 rfl tabOk rfl rfl rfl (by first | exact sg_len _ | exact cx_len _ | (simp only [sg_len, cx_len]) | rfl) (by first | exact sg_one _ | exact cx_one _ | rfl) (by first | exact sg_len _ | exact cx_len _ | (simp only [sg_len, cx_len]) | rfl) ?_))
   | ((refine z_sti 4 rfl rfl ?_; refine o_storeb4 rfl tabOk rfl rfl rfl (by first | exact sg_len _ | exact cx_len _ | (simp only [sg_len, cx_len]) | rfl) (by first | exact sg_one _ | exact cx_one _ | rfl) (by first | exact sg_len _ | exact cx_len _ | (simp only [sg_len, cx_len]) | rfl) ?_))
   | ((refine z_sti 5 rfl rfl ?_; refine o_storeb5 rfl tabOk rfl rfl rfl (by first | exact sg_len _ | exact cx_len _ | (simp only [sg_len, cx_len]) | rfl) (by first | exact sg_one _ | exact cx_one _ | rfl) (by first | exact sg_len _ | exact cx_len _ | (simp only [sg_len, cx_len]) | rfl) ?_))
   | ((refine z_sti 6 rfl rfl ?_; refine o_storeb6 rfl tabOk rfl rfl rfl (by first | exact sg_len _ | exact cx_len _ | (simp only [sg_len, cx_len]) | rfl) (by first | exact sg_one _ | exact cx_one _ | rfl) (by first | exact sg_len _ | exact cx_len _ | (simp only [sg_len, cx_len]) | rfl) ?_)))
   | (refine z_st1 rfl rfl ?_; first
   | refine o_store rfl tabOk rfl rfl rfl rfl rfl (by first | exact sg_w _ | exact sg_b _ | exact sg_h _ (by omega) | rfl) (by first | exact sg_set_w _ _ | exact sg_set_b _ _ | exact sg_set_h _ (by omega) _ | rfl) ?_
   | ((refine z_sti 1 rfl rfl ?_; refine o_store1 rfl tabOk rfl rfl rfl rfl rfl (by first | exact sg_w _ | exact sg_b _ | exact sg_h _ (by omega) | rfl) (by first | exact sg_set_w _ _ | exact sg_set_b _ _ | exact sg_set_h _ (by omega) _ | rfl) ?_))
   | ((refine z_sti 2 rfl rfl ?_; refine o_store2 rfl tabOk rfl rfl rfl rfl rfl (by first | exact sg_w _ | exact sg_b _ | exact sg_h _ (by omega) | rfl) (by first | exact sg_set_w _ _ | exact sg_set_b _ _ | exact sg_set_h _ (by omega) _ | rfl) ?_))
   | ((refine z_sti 3 rfl rfl ?_; refine o_store3 rfl tabOk rfl rfl rfl rfl rfl (by first | exact sg_w _ | exact sg_b _ | exact sg_h _ (by omega) | rfl) (by first | exact sg_set_w _ _ | exact sg_set_b _ _ | exact sg_set_h _ (by omega) _ | rfl) ?_))
   | ((refine z_sti 4 rfl rfl ?_; refine o_store4 rfl tabOk rfl rfl rfl rfl rfl (by first | exact sg_w _ | exact sg_b _ | exact sg_h _ (by omega) | rfl) (by first | exact sg_set_w _ _ | exact sg_set_b _ _ | exact sg_set_h _ (by omega) _ | rfl) ?_))
   | ((refine z_sti 5 rfl rfl ?_; refine o_store5 rfl tabOk rfl rfl rfl rfl rfl (by first | exact sg_w _ | exact sg_b _ | exact sg_h _ (by omega) | rfl) (by first | exact sg_set_w _ _ | exact sg_set_b _ _ | exact sg_set_h _ (by omega) _ | rfl) ?_))
   | ((refine z_sti 6 rfl rfl ?_; refine o_store6 rfl tabOk rfl rfl rfl rfl rfl (by first | exact sg_w _ | exact sg_b _ | exact sg_h _ (by omega) | rfl) (by first | exact sg_set_w _ _ | exact sg_set_b _ _ | exact sg_set_h _ (by omega) _ | rfl) ?_))))
   | (refine z_iscall ?_; first
   | ((refine z_iscallf 21 ?_; refine o_fn rfl Tryd.func21 rfl rfl rfl (in_fn _) (by decide) ?_)))
   | (refine z_ispick ?_; first
   | (refine o_pick1 rfl (by first | with_reducible rfl | with_reducible assumption | ((with_reducible refine decide_eq_true ?_); first | with_reducible rfl | with_reducible assumption | omega)) rfl (by decide) ?_)
   | (refine o_pick0 rfl (by first | with_reducible rfl | with_reducible assumption | ((with_reducible refine decide_eq_false ?_); first | with_reducible assumption | omega)) rfl (by decide) ?_)
   | (refine o_pick1 rfl (by first | (simp only [Bool.not_eq_true', decide_eq_false_iff_not]; omega) | (with_reducible assumption) | (rw [decide_eq_false] <;> (first | omega | with_reducible rfl)) | (rw [decide_eq_true] <;> (first | omega | with_reducible rfl)) | (simp; done) | (simp; omega)) rfl (by decide) ?_)
   | (refine o_pick0 rfl (by first | (simp only [Bool.not_eq_false', decide_eq_true_eq]; omega) | (with_reducible assumption) | (rw [decide_eq_false] <;> (first | omega | with_reducible rfl)) | (rw [decide_eq_true] <;> (first | omega | with_reducible rfl)) | (simp; done) | (simp; omega)) rfl (by decide) ?_))
   | (refine z_isix ?_; first
   | refine o_index0 tabOk rfl rfl rfl rfl (by omega) (by omega) (by decide) ?_
   | refine o_index1 tabOk rfl rfl rfl rfl (by omega) (by omega) (by decide) ?_
   | refine o_indexsk tabOk rfl rfl rfl rfl (by omega) (by omega) (by decide) ?_
   | refine o_indexs1 tabOk (by first | assumption) rfl rfl rfl rfl (by omega) (by omega) (by decide) ?_)
   | refine o_move rfl (by decide) ?_
   | refine o_assign rfl (by decide) ?_
   | refine o_nil rfl (by decide) ?_
   | refine o_extract rfl rfl (by decide) ?_
   | refine o_not rfl (by decide) ?_
   | refine o_field0 tabOk rfl rfl rfl rfl rfl (by decide) ?_
   | refine o_field tabOk rfl rfl rfl rfl rfl (by decide) ?_
   | refine o_conv tabOk rfl rfl rfl (by decide) ?_))
theorem set_no (s : Sg) (i a : Int) (h0 : 0 ≤ a) (h : ¬ (2 ≤ i ∧ i ≤ 8 ∧ a % 4 = 0)) : Pf Tryd.prog 12 [.agg s.cs.toArray, .int .i64 i, .int .u32 a] (.tuple #[.agg s.cs.toArray, .int .u32 0, .int .i64 1]) := by
  intro w hw
  refine f_enter Tryd.func12 rfl Tryd.ntmps12 rfl hw ?_
  by_cases hin : 1 ≤ i ∧ i ≤ 8
  · have e1 : (!decide (1 ≤ i ∧ i ≤ 8)) = false := by simp [hin]
    by_cases h1 : i = 1
    · have e2 : decide (i = 1) = true := by simp [h1]
      repeat' (first
       | (refine s_is ?_; first
       | (refine s_isret ?_; first
       | exact p_r3 rfl (res_c tabOk rfl rfl rfl 0 rfl (sg_len _)) (res_t rfl) (res_t rfl) rfl)
       | (refine s_isw ?_; first
       | refine c_seq ?_
       | refine c_block ?_
       | refine c_region ?_
       | refine c_mixed mixed (by kernel_rfl) ?_
       | refine c_skip ?_
       | refine c_ret ?_
       | refine c_exit ?_
       | (refine s_iscond ?_; first
       | (refine c_true rfl (by first | with_reducible rfl | with_reducible assumption | ((with_reducible refine decide_eq_true ?_); first | with_reducible rfl | with_reducible assumption | omega)) ?_)
       | (refine c_false rfl (by first | with_reducible rfl | with_reducible assumption | ((with_reducible refine decide_eq_false ?_); first | with_reducible assumption | omega)) ?_)
       | (refine c_true rfl (by first | (simp only [Bool.not_eq_true', decide_eq_false_iff_not]; omega) | (with_reducible assumption) | (rw [decide_eq_false] <;> (first | omega | with_reducible rfl)) | (rw [decide_eq_true] <;> (first | omega | with_reducible rfl)) | (simp; done) | (simp; omega)) ?_)
       | (refine c_false rfl (by first | (simp only [Bool.not_eq_false', decide_eq_true_eq]; omega) | (with_reducible assumption) | (rw [decide_eq_false] <;> (first | omega | with_reducible rfl)) | (rw [decide_eq_true] <;> (first | omega | with_reducible rfl)) | (simp; done) | (simp; omega)) ?_)
       | refine c_cond rfl (fun hc => ?_) (fun hc => ?_)
       | refine c_condb rfl (fun hc => ?_) (fun hc => ?_)))
       | refine x_then ?_
       | refine x_then_ret ?_
       | refine x_then_exit ?_
       | refine x_block _ ?_
       | refine x_block_ret _ ?_
       | refine x_block_exit _ ?_
       | refine x_block_past (by decide) ?_
       | refine z_tailm ?_)
       | (refine z_isg0 ?_; first
       | refine z_skipu (by decide) rfl rfl ?_
       | (refine z_want0 rfl rfl (by first | with_reducible rfl | with_reducible assumption | ((with_reducible refine decide_eq_false ?_); first | with_reducible assumption | omega)) ?_)
       | (refine z_skip0 (by decide) rfl rfl (by first | with_reducible rfl | with_reducible assumption | ((with_reducible refine decide_eq_true ?_); first | with_reducible rfl | with_reducible assumption | omega)) ?_)
       | (refine z_want0 rfl rfl (by first | (simp only [Bool.not_eq_false', decide_eq_true_eq]; omega) | (with_reducible assumption) | (rw [decide_eq_false] <;> (first | omega | with_reducible rfl)) | (rw [decide_eq_true] <;> (first | omega | with_reducible rfl)) | (simp; done) | (simp; omega)) ?_)
       | (refine z_skip0 (by decide) rfl rfl (by first | (simp only [Bool.not_eq_true', decide_eq_false_iff_not]; omega) | (with_reducible assumption) | (rw [decide_eq_false] <;> (first | omega | with_reducible rfl)) | (rw [decide_eq_true] <;> (first | omega | with_reducible rfl)) | (simp; done) | (simp; omega)) ?_)
       | refine z_guard0 (by decide) rfl rfl (fun hc => ?_) (fun hc => ?_)
       | refine z_guardb (by decide) rfl rfl (fun hc => ?_) (fun hc => ?_))
       | (refine z_isnil ?_; first
       | refine z_list ?_
       | refine z_mixed ?_
       | refine z_mono0 ?_
       | refine z_mono1 (by decide) fun g => ?_
       | refine z_mono2 (by decide) (by decide) fun g g' => ?_
       | refine z_mixedx ?_
       | refine z_quiet ?_)
       | (refine z_isop ?_; first
       | refine o_boxa rfl rfl (by decide) fun g => ?_
       | refine o_alloca (e := 30) (vs := Sg.zero.cs) rfl (by kernel_rfl) (by decide) fun g => ?_
       | refine o_alloca (e := 26) (vs := Cx.zero.cs) rfl (by kernel_rfl) (by decide) fun g => ?_
       | (refine z_isbin ?_; first
       | (refine z_isb .eql ?_; first
       | refine o_eq rfl rfl (by decide) ?_
       | refine o_beq tabOk rfl rfl rfl (by decide) ?_
       | refine o_peq tabOk rfl rfl (by decide) ?_)
       | (refine z_isb .neq ?_; first
       | refine o_ne rfl rfl (by decide) ?_
       | refine o_bne tabOk rfl rfl rfl (by decide) ?_
       | refine o_pne tabOk rfl rfl (by decide) ?_)
       | (refine z_isb .rem ?_; first
       | refine o_rem rfl rfl (by omega) (by omega) (by decide) ?_
       | refine o_remk rfl rfl (by omega) (by omega) (by decide) ?_
       | refine o_remt rfl rfl (by omega) (by decide) ?_))
       | (refine z_isload ?_; first
       | (refine z_ld1 tabOk rfl rfl ?_; first
       | refine o_loadm tabOk rfl rfl rfl (by repeat' (first | exact List.mem_cons_self | apply List.mem_cons_of_mem)) (by first | exact sg_w _ | exact sg_b _ | exact sg_h _ (by omega) | rfl) (by decide) ?_
       | refine o_loads tabOk (by first | assumption | exact Rds.cons _ (by assumption) | exact Rds.cons _ (Rds.cons _ (by assumption)) | exact own_rds 0 rfl | exact own_rds 1 rfl | exact own_rds 2 rfl) rfl rfl rfl (by first | exact sg_w _ | exact sg_b _ | exact sg_h _ (by omega) | rfl) (by decide) ?_)
       | (refine z_ldw tabOk rfl rfl ?_; first
       | refine o_loadwm tabOk rfl rfl rfl (by repeat' (first | exact List.mem_cons_self | apply List.mem_cons_of_mem)) (by first | exact sg_len _ | exact cx_len _ | (simp only [sg_len, cx_len]) | rfl) (by decide) ?_))
       | (refine z_isstore ?_; first
       | (refine z_stw rfl ?_; first
       | ((refine z_sti 0 rfl rfl ?_; refine o_storeb0 rfl tabOk rfl rfl rfl (by first | exact sg_len _ | exact cx_len _ | (simp only [sg_len, cx_len]) | rfl) (by first | exact sg_one _ | exact cx_one _ | rfl) (by first | exact sg_len _ | exact cx_len _ | (simp only [sg_len, cx_len]) | rfl) ?_))
       | ((refine z_sti 1 rfl rfl ?_; refine o_storeb1 rfl tabOk rfl rfl rfl (by first | exact sg_len _ | exact cx_len _ | (simp only [sg_len, cx_len]) | rfl) (by first | exact sg_one _ | exact cx_one _ | rfl) (by first | exact sg_len _ | exact cx_len _ | (simp only [sg_len, cx_len]) | rfl) ?_))
       | ((refine z_sti 2 rfl rfl ?_; refine o_storeb2 rfl tabOk rfl rfl rfl (by first | exact sg_len _ | exact cx_len _ | (simp only [sg_len, cx_len]) | rfl) (by first | exact sg_one _ | exact cx_one _ | rfl) (by first | exact sg_len _ | exact cx_len _ | (simp only [sg_len, cx_len]) | rfl) ?_))
       | ((refine z_sti 3 rfl rfl ?_; refine o_storeb3 rfl tabOk rfl rfl rfl (by first | exact sg_len _ | exact cx_len _ | (simp only [sg_len, cx_len]) | rfl) (by first | exact sg_one _ | exact cx_one _ | rfl) (by first | exact sg_len _ | exact cx_len _ | (simp only [sg_len, cx_len]) | rfl) ?_))
       | ((refine z_sti 4 rfl rfl ?_; refine o_storeb4 rfl tabOk rfl rfl rfl (by first | exact sg_len _ | exact cx_len _ | (simp only [sg_len, cx_len]) | rfl) (by first | exact sg_one _ | exact cx_one _ | rfl) (by first | exact sg_len _ | exact cx_len _ | (simp only [sg_len, cx_len]) | rfl) ?_))
       | ((refine z_sti 5 rfl rfl ?_; refine o_storeb5 rfl tabOk rfl rfl rfl (by first | exact sg_len _ | exact cx_len _ | (simp only [sg_len, cx_len]) | rfl) (by first | exact sg_one _ | exact cx_one _ | rfl) (by first | exact sg_len _ | exact cx_len _ | (simp only [sg_len, cx_len]) | rfl) ?_))
       | ((refine z_sti 6 rfl rfl ?_; refine o_storeb6 rfl tabOk rfl rfl rfl (by first | exact sg_len _ | exact cx_len _ | (simp only [sg_len, cx_len]) | rfl) (by first | exact sg_one _ | exact cx_one _ | rfl) (by first | exact sg_len _ | exact cx_len _ | (simp only [sg_len, cx_len]) | rfl) ?_)))
       | (refine z_st1 rfl rfl ?_; first
       | refine o_store rfl tabOk rfl rfl rfl rfl rfl (by first | exact sg_w _ | exact sg_b _ | exact sg_h _ (by omega) | rfl) (by first | exact sg_set_w _ _ | exact sg_set_b _ _ | exact sg_set_h _ (by omega) _ | rfl) ?_
       | ((refine z_sti 1 rfl rfl ?_; refine o_store1 rfl tabOk rfl rfl rfl rfl rfl (by first | exact sg_w _ | exact sg_b _ | exact sg_h _ (by omega) | rfl) (by first | exact sg_set_w _ _ | exact sg_set_b _ _ | exact sg_set_h _ (by omega) _ | rfl) ?_))
       | ((refine z_sti 2 rfl rfl ?_; refine o_store2 rfl tabOk rfl rfl rfl rfl rfl (by first | exact sg_w _ | exact sg_b _ | exact sg_h _ (by omega) | rfl) (by first | exact sg_set_w _ _ | exact sg_set_b _ _ | exact sg_set_h _ (by omega) _ | rfl) ?_))
       | ((refine z_sti 3 rfl rfl ?_; refine o_store3 rfl tabOk rfl rfl rfl rfl rfl (by first | exact sg_w _ | exact sg_b _ | exact sg_h _ (by omega) | rfl) (by first | exact sg_set_w _ _ | exact sg_set_b _ _ | exact sg_set_h _ (by omega) _ | rfl) ?_))
       | ((refine z_sti 4 rfl rfl ?_; refine o_store4 rfl tabOk rfl rfl rfl rfl rfl (by first | exact sg_w _ | exact sg_b _ | exact sg_h _ (by omega) | rfl) (by first | exact sg_set_w _ _ | exact sg_set_b _ _ | exact sg_set_h _ (by omega) _ | rfl) ?_))
       | ((refine z_sti 5 rfl rfl ?_; refine o_store5 rfl tabOk rfl rfl rfl rfl rfl (by first | exact sg_w _ | exact sg_b _ | exact sg_h _ (by omega) | rfl) (by first | exact sg_set_w _ _ | exact sg_set_b _ _ | exact sg_set_h _ (by omega) _ | rfl) ?_))
       | ((refine z_sti 6 rfl rfl ?_; refine o_store6 rfl tabOk rfl rfl rfl rfl rfl (by first | exact sg_w _ | exact sg_b _ | exact sg_h _ (by omega) | rfl) (by first | exact sg_set_w _ _ | exact sg_set_b _ _ | exact sg_set_h _ (by omega) _ | rfl) ?_))))
       | (refine z_iscall ?_; first
       | ((refine z_iscallf 21 ?_; refine o_fn rfl Tryd.func21 rfl rfl rfl (in_fn _) (by decide) ?_)))
       | (refine z_ispick ?_; first
       | (refine o_pick1 rfl (by first | with_reducible rfl | with_reducible assumption | ((with_reducible refine decide_eq_true ?_); first | with_reducible rfl | with_reducible assumption | omega)) rfl (by decide) ?_)
       | (refine o_pick0 rfl (by first | with_reducible rfl | with_reducible assumption | ((with_reducible refine decide_eq_false ?_); first | with_reducible assumption | omega)) rfl (by decide) ?_)
       | (refine o_pick1 rfl (by first | (simp only [Bool.not_eq_true', decide_eq_false_iff_not]; omega) | (with_reducible assumption) | (rw [decide_eq_false] <;> (first | omega | with_reducible rfl)) | (rw [decide_eq_true] <;> (first | omega | with_reducible rfl)) | (simp; done) | (simp; omega)) rfl (by decide) ?_)
       | (refine o_pick0 rfl (by first | (simp only [Bool.not_eq_false', decide_eq_true_eq]; omega) | (with_reducible assumption) | (rw [decide_eq_false] <;> (first | omega | with_reducible rfl)) | (rw [decide_eq_true] <;> (first | omega | with_reducible rfl)) | (simp; done) | (simp; omega)) rfl (by decide) ?_))
       | (refine z_isix ?_; first
       | refine o_index0 tabOk rfl rfl rfl rfl (by omega) (by omega) (by decide) ?_
       | refine o_index1 tabOk rfl rfl rfl rfl (by omega) (by omega) (by decide) ?_
       | refine o_indexsk tabOk rfl rfl rfl rfl (by omega) (by omega) (by decide) ?_
       | refine o_indexs1 tabOk (by first | assumption) rfl rfl rfl rfl (by omega) (by omega) (by decide) ?_)
       | refine o_move rfl (by decide) ?_
       | refine o_assign rfl (by decide) ?_
       | refine o_nil rfl (by decide) ?_
       | refine o_extract rfl rfl (by decide) ?_
       | refine o_not rfl (by decide) ?_
       | refine o_field0 tabOk rfl rfl rfl rfl rfl (by decide) ?_
       | refine o_field tabOk rfl rfl rfl rfl rfl (by decide) ?_
       | refine o_conv tabOk rfl rfl rfl (by decide) ?_))
    · have e2 : decide (i = 1) = false := by simp [h1]
      have e3 : decide (a % 4 ≠ 0) = true := by simp; omega
      repeat' (first
       | (refine s_is ?_; first
       | (refine s_isret ?_; first
       | exact p_r3 rfl (res_c tabOk rfl rfl rfl 0 rfl (sg_len _)) (res_t rfl) (res_t rfl) rfl)
       | (refine s_isw ?_; first
       | refine c_seq ?_
       | refine c_block ?_
       | refine c_region ?_
       | refine c_mixed mixed (by kernel_rfl) ?_
       | refine c_skip ?_
       | refine c_ret ?_
       | refine c_exit ?_
       | (refine s_iscond ?_; first
       | (refine c_true rfl (by first | with_reducible rfl | with_reducible assumption | ((with_reducible refine decide_eq_true ?_); first | with_reducible rfl | with_reducible assumption | omega)) ?_)
       | (refine c_false rfl (by first | with_reducible rfl | with_reducible assumption | ((with_reducible refine decide_eq_false ?_); first | with_reducible assumption | omega)) ?_)
       | (refine c_true rfl (by first | (simp only [Bool.not_eq_true', decide_eq_false_iff_not]; omega) | (with_reducible assumption) | (rw [decide_eq_false] <;> (first | omega | with_reducible rfl)) | (rw [decide_eq_true] <;> (first | omega | with_reducible rfl)) | (simp; done) | (simp; omega)) ?_)
       | (refine c_false rfl (by first | (simp only [Bool.not_eq_false', decide_eq_true_eq]; omega) | (with_reducible assumption) | (rw [decide_eq_false] <;> (first | omega | with_reducible rfl)) | (rw [decide_eq_true] <;> (first | omega | with_reducible rfl)) | (simp; done) | (simp; omega)) ?_)
       | refine c_cond rfl (fun hc => ?_) (fun hc => ?_)
       | refine c_condb rfl (fun hc => ?_) (fun hc => ?_)))
       | refine x_then ?_
       | refine x_then_ret ?_
       | refine x_then_exit ?_
       | refine x_block _ ?_
       | refine x_block_ret _ ?_
       | refine x_block_exit _ ?_
       | refine x_block_past (by decide) ?_
       | refine z_tailm ?_)
       | (refine z_isg0 ?_; first
       | refine z_skipu (by decide) rfl rfl ?_
       | (refine z_want0 rfl rfl (by first | with_reducible rfl | with_reducible assumption | ((with_reducible refine decide_eq_false ?_); first | with_reducible assumption | omega)) ?_)
       | (refine z_skip0 (by decide) rfl rfl (by first | with_reducible rfl | with_reducible assumption | ((with_reducible refine decide_eq_true ?_); first | with_reducible rfl | with_reducible assumption | omega)) ?_)
       | (refine z_want0 rfl rfl (by first | (simp only [Bool.not_eq_false', decide_eq_true_eq]; omega) | (with_reducible assumption) | (rw [decide_eq_false] <;> (first | omega | with_reducible rfl)) | (rw [decide_eq_true] <;> (first | omega | with_reducible rfl)) | (simp; done) | (simp; omega)) ?_)
       | (refine z_skip0 (by decide) rfl rfl (by first | (simp only [Bool.not_eq_true', decide_eq_false_iff_not]; omega) | (with_reducible assumption) | (rw [decide_eq_false] <;> (first | omega | with_reducible rfl)) | (rw [decide_eq_true] <;> (first | omega | with_reducible rfl)) | (simp; done) | (simp; omega)) ?_)
       | refine z_guard0 (by decide) rfl rfl (fun hc => ?_) (fun hc => ?_)
       | refine z_guardb (by decide) rfl rfl (fun hc => ?_) (fun hc => ?_))
       | (refine z_isnil ?_; first
       | refine z_list ?_
       | refine z_mixed ?_
       | refine z_mono0 ?_
       | refine z_mono1 (by decide) fun g => ?_
       | refine z_mono2 (by decide) (by decide) fun g g' => ?_
       | refine z_mixedx ?_
       | refine z_quiet ?_)
       | (refine z_isop ?_; first
       | refine o_boxa rfl rfl (by decide) fun g => ?_
       | refine o_alloca (e := 30) (vs := Sg.zero.cs) rfl (by kernel_rfl) (by decide) fun g => ?_
       | refine o_alloca (e := 26) (vs := Cx.zero.cs) rfl (by kernel_rfl) (by decide) fun g => ?_
       | (refine z_isbin ?_; first
       | (refine z_isb .eql ?_; first
       | refine o_eq rfl rfl (by decide) ?_
       | refine o_beq tabOk rfl rfl rfl (by decide) ?_
       | refine o_peq tabOk rfl rfl (by decide) ?_)
       | (refine z_isb .neq ?_; first
       | refine o_ne rfl rfl (by decide) ?_
       | refine o_bne tabOk rfl rfl rfl (by decide) ?_
       | refine o_pne tabOk rfl rfl (by decide) ?_)
       | (refine z_isb .rem ?_; first
       | refine o_rem rfl rfl (by omega) (by omega) (by decide) ?_
       | refine o_remk rfl rfl (by omega) (by omega) (by decide) ?_
       | refine o_remt rfl rfl (by omega) (by decide) ?_))
       | (refine z_isload ?_; first
       | (refine z_ld1 tabOk rfl rfl ?_; first
       | refine o_loadm tabOk rfl rfl rfl (by repeat' (first | exact List.mem_cons_self | apply List.mem_cons_of_mem)) (by first | exact sg_w _ | exact sg_b _ | exact sg_h _ (by omega) | rfl) (by decide) ?_
       | refine o_loads tabOk (by first | assumption | exact Rds.cons _ (by assumption) | exact Rds.cons _ (Rds.cons _ (by assumption)) | exact own_rds 0 rfl | exact own_rds 1 rfl | exact own_rds 2 rfl) rfl rfl rfl (by first | exact sg_w _ | exact sg_b _ | exact sg_h _ (by omega) | rfl) (by decide) ?_)
       | (refine z_ldw tabOk rfl rfl ?_; first
       | refine o_loadwm tabOk rfl rfl rfl (by repeat' (first | exact List.mem_cons_self | apply List.mem_cons_of_mem)) (by first | exact sg_len _ | exact cx_len _ | (simp only [sg_len, cx_len]) | rfl) (by decide) ?_))
       | (refine z_isstore ?_; first
       | (refine z_stw rfl ?_; first
       | ((refine z_sti 0 rfl rfl ?_; refine o_storeb0 rfl tabOk rfl rfl rfl (by first | exact sg_len _ | exact cx_len _ | (simp only [sg_len, cx_len]) | rfl) (by first | exact sg_one _ | exact cx_one _ | rfl) (by first | exact sg_len _ | exact cx_len _ | (simp only [sg_len, cx_len]) | rfl) ?_))
       | ((refine z_sti 1 rfl rfl ?_; refine o_storeb1 rfl tabOk rfl rfl rfl (by first | exact sg_len _ | exact cx_len _ | (simp only [sg_len, cx_len]) | rfl) (by first | exact sg_one _ | exact cx_one _ | rfl) (by first | exact sg_len _ | exact cx_len _ | (simp only [sg_len, cx_len]) | rfl) ?_))
       | ((refine z_sti 2 rfl rfl ?_; refine o_storeb2 rfl tabOk rfl rfl rfl (by first | exact sg_len _ | exact cx_len _ | (simp only [sg_len, cx_len]) | rfl) (by first | exact sg_one _ | exact cx_one _ | rfl) (by first | exact sg_len _ | exact cx_len _ | (simp only [sg_len, cx_len]) | rfl) ?_))
       | ((refine z_sti 3 rfl rfl ?_; refine o_storeb3 rfl tabOk rfl rfl rfl (by first | exact sg_len _ | exact cx_len _ | (simp only [sg_len, cx_len]) | rfl) (by first | exact sg_one _ | exact cx_one _ | rfl) (by first | exact sg_len _ | exact cx_len _ | (simp only [sg_len, cx_len]) | rfl) ?_))
       | ((refine z_sti 4 rfl rfl ?_; refine o_storeb4 rfl tabOk rfl rfl rfl (by first | exact sg_len _ | exact cx_len _ | (simp only [sg_len, cx_len]) | rfl) (by first | exact sg_one _ | exact cx_one _ | rfl) (by first | exact sg_len _ | exact cx_len _ | (simp only [sg_len, cx_len]) | rfl) ?_))
       | ((refine z_sti 5 rfl rfl ?_; refine o_storeb5 rfl tabOk rfl rfl rfl (by first | exact sg_len _ | exact cx_len _ | (simp only [sg_len, cx_len]) | rfl) (by first | exact sg_one _ | exact cx_one _ | rfl) (by first | exact sg_len _ | exact cx_len _ | (simp only [sg_len, cx_len]) | rfl) ?_))
       | ((refine z_sti 6 rfl rfl ?_; refine o_storeb6 rfl tabOk rfl rfl rfl (by first | exact sg_len _ | exact cx_len _ | (simp only [sg_len, cx_len]) | rfl) (by first | exact sg_one _ | exact cx_one _ | rfl) (by first | exact sg_len _ | exact cx_len _ | (simp only [sg_len, cx_len]) | rfl) ?_)))
       | (refine z_st1 rfl rfl ?_; first
       | refine o_store rfl tabOk rfl rfl rfl rfl rfl (by first | exact sg_w _ | exact sg_b _ | exact sg_h _ (by omega) | rfl) (by first | exact sg_set_w _ _ | exact sg_set_b _ _ | exact sg_set_h _ (by omega) _ | rfl) ?_
       | ((refine z_sti 1 rfl rfl ?_; refine o_store1 rfl tabOk rfl rfl rfl rfl rfl (by first | exact sg_w _ | exact sg_b _ | exact sg_h _ (by omega) | rfl) (by first | exact sg_set_w _ _ | exact sg_set_b _ _ | exact sg_set_h _ (by omega) _ | rfl) ?_))
       | ((refine z_sti 2 rfl rfl ?_; refine o_store2 rfl tabOk rfl rfl rfl rfl rfl (by first | exact sg_w _ | exact sg_b _ | exact sg_h _ (by omega) | rfl) (by first | exact sg_set_w _ _ | exact sg_set_b _ _ | exact sg_set_h _ (by omega) _ | rfl) ?_))
       | ((refine z_sti 3 rfl rfl ?_; refine o_store3 rfl tabOk rfl rfl rfl rfl rfl (by first | exact sg_w _ | exact sg_b _ | exact sg_h _ (by omega) | rfl) (by first | exact sg_set_w _ _ | exact sg_set_b _ _ | exact sg_set_h _ (by omega) _ | rfl) ?_))
       | ((refine z_sti 4 rfl rfl ?_; refine o_store4 rfl tabOk rfl rfl rfl rfl rfl (by first | exact sg_w _ | exact sg_b _ | exact sg_h _ (by omega) | rfl) (by first | exact sg_set_w _ _ | exact sg_set_b _ _ | exact sg_set_h _ (by omega) _ | rfl) ?_))
       | ((refine z_sti 5 rfl rfl ?_; refine o_store5 rfl tabOk rfl rfl rfl rfl rfl (by first | exact sg_w _ | exact sg_b _ | exact sg_h _ (by omega) | rfl) (by first | exact sg_set_w _ _ | exact sg_set_b _ _ | exact sg_set_h _ (by omega) _ | rfl) ?_))
       | ((refine z_sti 6 rfl rfl ?_; refine o_store6 rfl tabOk rfl rfl rfl rfl rfl (by first | exact sg_w _ | exact sg_b _ | exact sg_h _ (by omega) | rfl) (by first | exact sg_set_w _ _ | exact sg_set_b _ _ | exact sg_set_h _ (by omega) _ | rfl) ?_))))
       | (refine z_iscall ?_; first
       | ((refine z_iscallf 21 ?_; refine o_fn rfl Tryd.func21 rfl rfl rfl (in_fn _) (by decide) ?_)))
       | (refine z_ispick ?_; first
       | (refine o_pick1 rfl (by first | with_reducible rfl | with_reducible assumption | ((with_reducible refine decide_eq_true ?_); first | with_reducible rfl | with_reducible assumption | omega)) rfl (by decide) ?_)
       | (refine o_pick0 rfl (by first | with_reducible rfl | with_reducible assumption | ((with_reducible refine decide_eq_false ?_); first | with_reducible assumption | omega)) rfl (by decide) ?_)
       | (refine o_pick1 rfl (by first | (simp only [Bool.not_eq_true', decide_eq_false_iff_not]; omega) | (with_reducible assumption) | (rw [decide_eq_false] <;> (first | omega | with_reducible rfl)) | (rw [decide_eq_true] <;> (first | omega | with_reducible rfl)) | (simp; done) | (simp; omega)) rfl (by decide) ?_)
       | (refine o_pick0 rfl (by first | (simp only [Bool.not_eq_false', decide_eq_true_eq]; omega) | (with_reducible assumption) | (rw [decide_eq_false] <;> (first | omega | with_reducible rfl)) | (rw [decide_eq_true] <;> (first | omega | with_reducible rfl)) | (simp; done) | (simp; omega)) rfl (by decide) ?_))
       | (refine z_isix ?_; first
       | refine o_index0 tabOk rfl rfl rfl rfl (by omega) (by omega) (by decide) ?_
       | refine o_index1 tabOk rfl rfl rfl rfl (by omega) (by omega) (by decide) ?_
       | refine o_indexsk tabOk rfl rfl rfl rfl (by omega) (by omega) (by decide) ?_
       | refine o_indexs1 tabOk (by first | assumption) rfl rfl rfl rfl (by omega) (by omega) (by decide) ?_)
       | refine o_move rfl (by decide) ?_
       | refine o_assign rfl (by decide) ?_
       | refine o_nil rfl (by decide) ?_
       | refine o_extract rfl rfl (by decide) ?_
       | refine o_not rfl (by decide) ?_
       | refine o_field0 tabOk rfl rfl rfl rfl rfl (by decide) ?_
       | refine o_field tabOk rfl rfl rfl rfl rfl (by decide) ?_
       | refine o_conv tabOk rfl rfl rfl (by decide) ?_))
  · have e1 : (!decide (1 ≤ i ∧ i ≤ 8)) = true := by simp [hin]
    repeat' (first
     | (refine s_is ?_; first
     | (refine s_isret ?_; first
     | exact p_r3 rfl (res_c tabOk rfl rfl rfl 0 rfl (sg_len _)) (res_t rfl) (res_t rfl) rfl)
     | (refine s_isw ?_; first
     | refine c_seq ?_
     | refine c_block ?_
     | refine c_region ?_
     | refine c_mixed mixed (by kernel_rfl) ?_
     | refine c_skip ?_
     | refine c_ret ?_
     | refine c_exit ?_
     | (refine s_iscond ?_; first
     | (refine c_true rfl (by first | with_reducible rfl | with_reducible assumption | ((with_reducible refine decide_eq_true ?_); first | with_reducible rfl | with_reducible assumption | omega)) ?_)
     | (refine c_false rfl (by first | with_reducible rfl | with_reducible assumption | ((with_reducible refine decide_eq_false ?_); first | with_reducible assumption | omega)) ?_)
     | (refine c_true rfl (by first | (simp only [Bool.not_eq_true', decide_eq_false_iff_not]; omega) | (with_reducible assumption) | (rw [decide_eq_false] <;> (first | omega | with_reducible rfl)) | (rw [decide_eq_true] <;> (first | omega | with_reducible rfl)) | (simp; done) | (simp; omega)) ?_)
     | (refine c_false rfl (by first | (simp only [Bool.not_eq_false', decide_eq_true_eq]; omega) | (with_reducible assumption) | (rw [decide_eq_false] <;> (first | omega | with_reducible rfl)) | (rw [decide_eq_true] <;> (first | omega | with_reducible rfl)) | (simp; done) | (simp; omega)) ?_)
     | refine c_cond rfl (fun hc => ?_) (fun hc => ?_)
     | refine c_condb rfl (fun hc => ?_) (fun hc => ?_)))
     | refine x_then ?_
     | refine x_then_ret ?_
     | refine x_then_exit ?_
     | refine x_block _ ?_
     | refine x_block_ret _ ?_
     | refine x_block_exit _ ?_
     | refine x_block_past (by decide) ?_
     | refine z_tailm ?_)
     | (refine z_isg0 ?_; first
     | refine z_skipu (by decide) rfl rfl ?_
     | (refine z_want0 rfl rfl (by first | with_reducible rfl | with_reducible assumption | ((with_reducible refine decide_eq_false ?_); first | with_reducible assumption | omega)) ?_)
     | (refine z_skip0 (by decide) rfl rfl (by first | with_reducible rfl | with_reducible assumption | ((with_reducible refine decide_eq_true ?_); first | with_reducible rfl | with_reducible assumption | omega)) ?_)
     | (refine z_want0 rfl rfl (by first | (simp only [Bool.not_eq_false', decide_eq_true_eq]; omega) | (with_reducible assumption) | (rw [decide_eq_false] <;> (first | omega | with_reducible rfl)) | (rw [decide_eq_true] <;> (first | omega | with_reducible rfl)) | (simp; done) | (simp; omega)) ?_)
     | (refine z_skip0 (by decide) rfl rfl (by first | (simp only [Bool.not_eq_true', decide_eq_false_iff_not]; omega) | (with_reducible assumption) | (rw [decide_eq_false] <;> (first | omega | with_reducible rfl)) | (rw [decide_eq_true] <;> (first | omega | with_reducible rfl)) | (simp; done) | (simp; omega)) ?_)
     | refine z_guard0 (by decide) rfl rfl (fun hc => ?_) (fun hc => ?_)
     | refine z_guardb (by decide) rfl rfl (fun hc => ?_) (fun hc => ?_))
     | (refine z_isnil ?_; first
     | refine z_list ?_
     | refine z_mixed ?_
     | refine z_mono0 ?_
     | refine z_mono1 (by decide) fun g => ?_
     | refine z_mono2 (by decide) (by decide) fun g g' => ?_
     | refine z_mixedx ?_
     | refine z_quiet ?_)
     | (refine z_isop ?_; first
     | refine o_boxa rfl rfl (by decide) fun g => ?_
     | refine o_alloca (e := 30) (vs := Sg.zero.cs) rfl (by kernel_rfl) (by decide) fun g => ?_
     | refine o_alloca (e := 26) (vs := Cx.zero.cs) rfl (by kernel_rfl) (by decide) fun g => ?_
     | (refine z_isbin ?_; first
     | (refine z_isb .eql ?_; first
     | refine o_eq rfl rfl (by decide) ?_
     | refine o_beq tabOk rfl rfl rfl (by decide) ?_
     | refine o_peq tabOk rfl rfl (by decide) ?_)
     | (refine z_isb .neq ?_; first
     | refine o_ne rfl rfl (by decide) ?_
     | refine o_bne tabOk rfl rfl rfl (by decide) ?_
     | refine o_pne tabOk rfl rfl (by decide) ?_)
     | (refine z_isb .rem ?_; first
     | refine o_rem rfl rfl (by omega) (by omega) (by decide) ?_
     | refine o_remk rfl rfl (by omega) (by omega) (by decide) ?_
     | refine o_remt rfl rfl (by omega) (by decide) ?_))
     | (refine z_isload ?_; first
     | (refine z_ld1 tabOk rfl rfl ?_; first
     | refine o_loadm tabOk rfl rfl rfl (by repeat' (first | exact List.mem_cons_self | apply List.mem_cons_of_mem)) (by first | exact sg_w _ | exact sg_b _ | exact sg_h _ (by omega) | rfl) (by decide) ?_
     | refine o_loads tabOk (by first | assumption | exact Rds.cons _ (by assumption) | exact Rds.cons _ (Rds.cons _ (by assumption)) | exact own_rds 0 rfl | exact own_rds 1 rfl | exact own_rds 2 rfl) rfl rfl rfl (by first | exact sg_w _ | exact sg_b _ | exact sg_h _ (by omega) | rfl) (by decide) ?_)
     | (refine z_ldw tabOk rfl rfl ?_; first
     | refine o_loadwm tabOk rfl rfl rfl (by repeat' (first | exact List.mem_cons_self | apply List.mem_cons_of_mem)) (by first | exact sg_len _ | exact cx_len _ | (simp only [sg_len, cx_len]) | rfl) (by decide) ?_))
     | (refine z_isstore ?_; first
     | (refine z_stw rfl ?_; first
     | ((refine z_sti 0 rfl rfl ?_; refine o_storeb0 rfl tabOk rfl rfl rfl (by first | exact sg_len _ | exact cx_len _ | (simp only [sg_len, cx_len]) | rfl) (by first | exact sg_one _ | exact cx_one _ | rfl) (by first | exact sg_len _ | exact cx_len _ | (simp only [sg_len, cx_len]) | rfl) ?_))
     | ((refine z_sti 1 rfl rfl ?_; refine o_storeb1 rfl tabOk rfl rfl rfl (by first | exact sg_len _ | exact cx_len _ | (simp only [sg_len, cx_len]) | rfl) (by first | exact sg_one _ | exact cx_one _ | rfl) (by first | exact sg_len _ | exact cx_len _ | (simp only [sg_len, cx_len]) | rfl) ?_))
     | ((refine z_sti 2 rfl rfl ?_; refine o_storeb2 rfl tabOk rfl rfl rfl (by first | exact sg_len _ | exact cx_len _ | (simp only [sg_len, cx_len]) | rfl) (by first | exact sg_one _ | exact cx_one _ | rfl) (by first | exact sg_len _ | exact cx_len _ | (simp only [sg_len, cx_len]) | rfl) ?_))
     | ((refine z_sti 3 rfl rfl ?_; refine o_storeb3 rfl tabOk rfl rfl rfl (by first | exact sg_len _ | exact cx_len _ | (simp only [sg_len, cx_len]) | rfl) (by first | exact sg_one _ | exact cx_one _ | rfl) (by first | exact sg_len _ | exact cx_len _ | (simp only [sg_len, cx_len]) | rfl) ?_))
     | ((refine z_sti 4 rfl rfl ?_; refine o_storeb4 rfl tabOk rfl rfl rfl (by first | exact sg_len _ | exact cx_len _ | (simp only [sg_len, cx_len]) | rfl) (by first | exact sg_one _ | exact cx_one _ | rfl) (by first | exact sg_len _ | exact cx_len _ | (simp only [sg_len, cx_len]) | rfl) ?_))
     | ((refine z_sti 5 rfl rfl ?_; refine o_storeb5 rfl tabOk rfl rfl rfl (by first | exact sg_len _ | exact cx_len _ | (simp only [sg_len, cx_len]) | rfl) (by first | exact sg_one _ | exact cx_one _ | rfl) (by first | exact sg_len _ | exact cx_len _ | (simp only [sg_len, cx_len]) | rfl) ?_))
     | ((refine z_sti 6 rfl rfl ?_; refine o_storeb6 rfl tabOk rfl rfl rfl (by first | exact sg_len _ | exact cx_len _ | (simp only [sg_len, cx_len]) | rfl) (by first | exact sg_one _ | exact cx_one _ | rfl) (by first | exact sg_len _ | exact cx_len _ | (simp only [sg_len, cx_len]) | rfl) ?_)))
     | (refine z_st1 rfl rfl ?_; first
     | refine o_store rfl tabOk rfl rfl rfl rfl rfl (by first | exact sg_w _ | exact sg_b _ | exact sg_h _ (by omega) | rfl) (by first | exact sg_set_w _ _ | exact sg_set_b _ _ | exact sg_set_h _ (by omega) _ | rfl) ?_
     | ((refine z_sti 1 rfl rfl ?_; refine o_store1 rfl tabOk rfl rfl rfl rfl rfl (by first | exact sg_w _ | exact sg_b _ | exact sg_h _ (by omega) | rfl) (by first | exact sg_set_w _ _ | exact sg_set_b _ _ | exact sg_set_h _ (by omega) _ | rfl) ?_))
     | ((refine z_sti 2 rfl rfl ?_; refine o_store2 rfl tabOk rfl rfl rfl rfl rfl (by first | exact sg_w _ | exact sg_b _ | exact sg_h _ (by omega) | rfl) (by first | exact sg_set_w _ _ | exact sg_set_b _ _ | exact sg_set_h _ (by omega) _ | rfl) ?_))
     | ((refine z_sti 3 rfl rfl ?_; refine o_store3 rfl tabOk rfl rfl rfl rfl rfl (by first | exact sg_w _ | exact sg_b _ | exact sg_h _ (by omega) | rfl) (by first | exact sg_set_w _ _ | exact sg_set_b _ _ | exact sg_set_h _ (by omega) _ | rfl) ?_))
     | ((refine z_sti 4 rfl rfl ?_; refine o_store4 rfl tabOk rfl rfl rfl rfl rfl (by first | exact sg_w _ | exact sg_b _ | exact sg_h _ (by omega) | rfl) (by first | exact sg_set_w _ _ | exact sg_set_b _ _ | exact sg_set_h _ (by omega) _ | rfl) ?_))
     | ((refine z_sti 5 rfl rfl ?_; refine o_store5 rfl tabOk rfl rfl rfl rfl rfl (by first | exact sg_w _ | exact sg_b _ | exact sg_h _ (by omega) | rfl) (by first | exact sg_set_w _ _ | exact sg_set_b _ _ | exact sg_set_h _ (by omega) _ | rfl) ?_))
     | ((refine z_sti 6 rfl rfl ?_; refine o_store6 rfl tabOk rfl rfl rfl rfl rfl (by first | exact sg_w _ | exact sg_b _ | exact sg_h _ (by omega) | rfl) (by first | exact sg_set_w _ _ | exact sg_set_b _ _ | exact sg_set_h _ (by omega) _ | rfl) ?_))))
     | (refine z_iscall ?_; first
     | ((refine z_iscallf 21 ?_; refine o_fn rfl Tryd.func21 rfl rfl rfl (in_fn _) (by decide) ?_)))
     | (refine z_ispick ?_; first
     | (refine o_pick1 rfl (by first | with_reducible rfl | with_reducible assumption | ((with_reducible refine decide_eq_true ?_); first | with_reducible rfl | with_reducible assumption | omega)) rfl (by decide) ?_)
     | (refine o_pick0 rfl (by first | with_reducible rfl | with_reducible assumption | ((with_reducible refine decide_eq_false ?_); first | with_reducible assumption | omega)) rfl (by decide) ?_)
     | (refine o_pick1 rfl (by first | (simp only [Bool.not_eq_true', decide_eq_false_iff_not]; omega) | (with_reducible assumption) | (rw [decide_eq_false] <;> (first | omega | with_reducible rfl)) | (rw [decide_eq_true] <;> (first | omega | with_reducible rfl)) | (simp; done) | (simp; omega)) rfl (by decide) ?_)
     | (refine o_pick0 rfl (by first | (simp only [Bool.not_eq_false', decide_eq_true_eq]; omega) | (with_reducible assumption) | (rw [decide_eq_false] <;> (first | omega | with_reducible rfl)) | (rw [decide_eq_true] <;> (first | omega | with_reducible rfl)) | (simp; done) | (simp; omega)) rfl (by decide) ?_))
     | (refine z_isix ?_; first
     | refine o_index0 tabOk rfl rfl rfl rfl (by omega) (by omega) (by decide) ?_
     | refine o_index1 tabOk rfl rfl rfl rfl (by omega) (by omega) (by decide) ?_
     | refine o_indexsk tabOk rfl rfl rfl rfl (by omega) (by omega) (by decide) ?_
     | refine o_indexs1 tabOk (by first | assumption) rfl rfl rfl rfl (by omega) (by omega) (by decide) ?_)
     | refine o_move rfl (by decide) ?_
     | refine o_assign rfl (by decide) ?_
     | refine o_nil rfl (by decide) ?_
     | refine o_extract rfl rfl (by decide) ?_
     | refine o_not rfl (by decide) ?_
     | refine o_field0 tabOk rfl rfl rfl rfl rfl (by decide) ?_
     | refine o_field tabOk rfl rfl rfl rfl rfl (by decide) ?_
     | refine o_conv tabOk rfl rfl rfl (by decide) ?_))
end Go.Proofs.YtjejnlfbonpfaaaDoor
