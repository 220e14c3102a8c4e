/-
What is told of programs; a nil table; the laws' own probe.
-/
import Derived.Test.YtmfnjmmdchlkiaaPr6
import Derived.Test.YtmfnjmmdchlkiaaPr4
namespace Go.Proofs.Ytmfnjmmdchlkiaa
set_option linter.unusedVariables false
set_option linter.unusedSimpArgs false
open Eng
def i64p (l : List Int) : List Value := l.map (Value.int .i64)
theorem i64p_at (l : List Int) {i : Nat} (h : i < l.length) : (i64p l)[i]? = some (.int .i64 (l.getD i 0)) := by unfold i64p; simp [h]
theorem i64p_nil : i64p [] = [] := rfl
theorem i64p_add (l : List Int) (x : Int) : i64p (l ++ [x]) = i64p l ++ [.int .i64 x] := by simp [i64p]
theorem i64p_len (l : List Int) : (i64p l).length = l.length := by simp [i64p]
/-- Is one done? -/
def dnB (e : Tb) (i : Int) : Bool := decide (1 ≤ i) && (decide (i ≤ 7) && decide ((e i.toNat).s = 2))
def stV (e : Tb) (i : Int) : Int := if dnB e i = true then (e i.toNat).u else 0
def paB (e : Tb) (i : Int) : Bool := decide (1 ≤ i) && (decide (i ≤ 7) && !(decide ((e i.toNat).s = 0)))
def paV (e : Tb) (i : Int) : Int := if paB e i = true then (e i.toNat).p else 0
/-- Those of the first n places that are alive. -/
def lvN (e : Tb) : Nat → List Int
  | 0 => []
  | n + 1 => if inB e ((n : Int) + 1) = true then lvN e n ++ [(n : Int) + 1] else lvN e n
theorem lvN_zero (e : Tb) : lvN e 0 = [] := rfl
theorem lvN_yes {e : Tb} {n : Nat} (h : inB e ((n : Int) + 1) = true) : lvN e (n + 1) = lvN e n ++ [(n : Int) + 1] := by simp only [lvN]; rw [if_pos h]
theorem lvN_no {e : Tb} {n : Nat} (h : inB e ((n : Int) + 1) = false) : lvN e (n + 1) = lvN e n := by simp only [lvN]; rw [if_neg (by rw [h]; simp)]
theorem lvN_le (e : Tb) : ∀ n, (lvN e n).length ≤ n
  | 0 => Nat.le_refl _
  | n + 1 => by
    have := lvN_le e n
    simp only [lvN]
    split
    · simp; omega
    · omega
/-- The first program. -/
def first : Tb := upd Tb.zero 1 ⟨1, 0, 0⟩
theorem first_eq : upd Tb.zero (Int.toNat 1) { Tb.zero (Int.toNat 1) with s := 1 } = first := by
  funext j
  unfold first upd
  by_cases h : j = 1
  · subst h; rfl
  · rw [if_neg h, if_neg (by simpa using h)]
theorem build102o (w : World) : (Instr.build 102 #[(0, .int .i64 1)]).run Try.prog w = .ok (.agg (⟨1, 0, 0⟩ : Pe).cs.toArray) w := by kernel_rfl
attribute [local irreducible] Eng.Hold Eng.Z Eng.S Eng.cells Eng.old Eng.own tcs Pe.cs inB
attribute [local irreducible] i64p dnB stV paB paV lvN first fork exit wait
theorem new_c (fr : List Chunk) : Does Try.prog 25 [] fr (fun _ : Nat => True) (fun g => .pointer (some ⟨g, 0, none⟩)) (fun g => cells g 105 (tcs first) :: fr) := by
  intro w hw
  refine f_enter Try.func25 rfl Try.ntmps25 rfl hw ?_
  repeat' (first
   | (refine s_is ?_; first
   | (refine s_isret ?_; first
   | (exact f_r1 rfl (res_t rfl) g trivial rfl (fun w h => by unfold first; exact h)))
   | (refine s_isw ?_; first
   | refine c_seq ?_
   | refine c_block ?_
   | refine c_region ?_
   | refine c_mixed mixed (by kernel_rfl) ?_
   | refine c_skip ?_
   | refine c_ret ?_
   | refine c_exit ?_
   | (refine s_iscond ?_; first
   | (refine c_true rfl (by first | with_reducible rfl | with_reducible assumption | ((with_reducible refine decide_eq_true ?_); first | with_reducible rfl | with_reducible assumption | omega)) ?_)
   | (refine c_false rfl (by first | with_reducible rfl | with_reducible assumption | ((with_reducible refine decide_eq_false ?_); first | with_reducible assumption | omega)) ?_)
   | (refine c_true rfl (by first | (simp only [Bool.not_eq_true', decide_eq_false_iff_not]; omega) | (with_reducible assumption) | (rw [decide_eq_false] <;> (first | omega | with_reducible rfl)) | (rw [decide_eq_true] <;> (first | omega | with_reducible rfl)) | (simp; done) | (simp; omega)) ?_)
   | (refine c_false rfl (by first | (simp only [Bool.not_eq_false', decide_eq_true_eq]; omega) | (with_reducible assumption) | (rw [decide_eq_false] <;> (first | omega | with_reducible rfl)) | (rw [decide_eq_true] <;> (first | omega | with_reducible rfl)) | (simp; done) | (simp; omega)) ?_)
   | refine c_cond rfl (fun hc => ?_) (fun hc => ?_)
   | refine c_condb rfl (fun hc => ?_) (fun hc => ?_)))
   | refine x_then ?_
   | refine x_then_ret ?_
   | refine x_then_exit ?_
   | refine x_block _ ?_
   | refine x_block_ret _ ?_
   | refine x_block_exit _ ?_
   | refine x_block_past (by decide) ?_
   | refine z_tailm ?_)
   | (refine z_isnil ?_; first
   | refine z_list ?_
   | refine z_mixed ?_
   | refine z_mono0 ?_
   | refine z_mono1 (by decide) fun g => ?_
   | refine z_mono2 (by decide) (by decide) fun g g' => ?_
   | refine z_mixedx ?_
   | refine z_quiet ?_)
   | (refine z_isop ?_; first
   | refine o_indexm tabOk rfl rfl rfl rfl (by omega) (by omega) (by decide) ?_
   | refine o_build0 (t := 102) (v := .agg Pe.zero.cs.toArray) (fun _ => by kernel_rfl) (by decide) ?_
   | refine o_build0 (t := 66) (v := .agg Pe.zero.cs.toArray) (fun _ => by kernel_rfl) (by decide) ?_
   | refine o_alloca (e := 102) (vs := Pe.zero.cs) rfl (by kernel_rfl) (by decide) fun g => ?_
   | refine o_alloca (e := 66) (vs := Pe.zero.cs) rfl (by kernel_rfl) (by decide) fun g => ?_
   | refine o_build (t := 102) rfl build102o (by decide) ?_
   | refine o_build0 (t := 105) (v := .agg (tcs Tb.zero).toArray) (fun _ => by kernel_rfl) (by decide) ?_
   | refine o_build0 (t := 69) (v := .agg (tcs Tb.zero).toArray) (fun _ => by kernel_rfl) (by decide) ?_
   | refine o_boxa rfl rfl (by decide) fun g => ?_
   | (refine z_isstore ?_; first
   | (refine o_storew_at rfl 0 tabOk rfl rfl rfl rfl (pe_len _) (pe_one _) (by rw [tcs_len, pe_len]; omega) (tcs_put _ (by omega) _) ?_)
   | (refine o_storew_at rfl 1 tabOk rfl rfl rfl rfl (pe_len _) (pe_one _) (by rw [tcs_len, pe_len]; omega) (tcs_put _ (by omega) _) ?_)
   | (refine z_stw rfl ?_; first
   | ((refine z_sti 0 rfl rfl ?_; refine o_storeb0 rfl tabOk rfl rfl rfl (by first | exact tcs_len _ | exact pe_len _ | (simp only [tcs_len, pe_len]) | rfl) (by first | exact tcs_one _ | exact pe_one _ | rfl) (by first | exact tcs_len _ | exact pe_len _ | (simp only [tcs_len, pe_len]) | rfl) ?_))
   | ((refine z_sti 1 rfl rfl ?_; refine o_storeb1 rfl tabOk rfl rfl rfl (by first | exact tcs_len _ | exact pe_len _ | (simp only [tcs_len, pe_len]) | rfl) (by first | exact tcs_one _ | exact pe_one _ | rfl) (by first | exact tcs_len _ | exact pe_len _ | (simp only [tcs_len, pe_len]) | rfl) ?_))
   | ((refine z_sti 2 rfl rfl ?_; refine o_storeb2 rfl tabOk rfl rfl rfl (by first | exact tcs_len _ | exact pe_len _ | (simp only [tcs_len, pe_len]) | rfl) (by first | exact tcs_one _ | exact pe_one _ | rfl) (by first | exact tcs_len _ | exact pe_len _ | (simp only [tcs_len, pe_len]) | rfl) ?_))
   | ((refine z_sti 3 rfl rfl ?_; refine o_storeb3 rfl tabOk rfl rfl rfl (by first | exact tcs_len _ | exact pe_len _ | (simp only [tcs_len, pe_len]) | rfl) (by first | exact tcs_one _ | exact pe_one _ | rfl) (by first | exact tcs_len _ | exact pe_len _ | (simp only [tcs_len, pe_len]) | rfl) ?_))
   | ((refine z_sti 4 rfl rfl ?_; refine o_storeb4 rfl tabOk rfl rfl rfl (by first | exact tcs_len _ | exact pe_len _ | (simp only [tcs_len, pe_len]) | rfl) (by first | exact tcs_one _ | exact pe_one _ | rfl) (by first | exact tcs_len _ | exact pe_len _ | (simp only [tcs_len, pe_len]) | rfl) ?_))
   | ((refine z_sti 5 rfl rfl ?_; refine o_storeb5 rfl tabOk rfl rfl rfl (by first | exact tcs_len _ | exact pe_len _ | (simp only [tcs_len, pe_len]) | rfl) (by first | exact tcs_one _ | exact pe_one _ | rfl) (by first | exact tcs_len _ | exact pe_len _ | (simp only [tcs_len, pe_len]) | rfl) ?_))
   | ((refine z_sti 6 rfl rfl ?_; refine o_storeb6 rfl tabOk rfl rfl rfl (by first | exact tcs_len _ | exact pe_len _ | (simp only [tcs_len, pe_len]) | rfl) (by first | exact tcs_one _ | exact pe_one _ | rfl) (by first | exact tcs_len _ | exact pe_len _ | (simp only [tcs_len, pe_len]) | rfl) ?_)))
   | (refine z_st1 rfl rfl ?_; first
   | refine o_store rfl tabOk rfl rfl rfl rfl rfl (by first | exact tcs_s _ (by omega) | exact tcs_p _ (by omega) | exact tcs_u _ (by omega) | exact pe_s _ | exact pe_p _ | exact pe_u _ | rfl) (by first | exact tcs_set_s _ (by omega) _ | exact tcs_set_p _ (by omega) _ | exact tcs_set_u _ (by omega) _ | rfl) ?_
   | ((refine z_sti 1 rfl rfl ?_; refine o_store1 rfl tabOk rfl rfl rfl rfl rfl (by first | exact tcs_s _ (by omega) | exact tcs_p _ (by omega) | exact tcs_u _ (by omega) | exact pe_s _ | exact pe_p _ | exact pe_u _ | rfl) (by first | exact tcs_set_s _ (by omega) _ | exact tcs_set_p _ (by omega) _ | exact tcs_set_u _ (by omega) _ | rfl) ?_))
   | ((refine z_sti 2 rfl rfl ?_; refine o_store2 rfl tabOk rfl rfl rfl rfl rfl (by first | exact tcs_s _ (by omega) | exact tcs_p _ (by omega) | exact tcs_u _ (by omega) | exact pe_s _ | exact pe_p _ | exact pe_u _ | rfl) (by first | exact tcs_set_s _ (by omega) _ | exact tcs_set_p _ (by omega) _ | exact tcs_set_u _ (by omega) _ | rfl) ?_))
   | ((refine z_sti 3 rfl rfl ?_; refine o_store3 rfl tabOk rfl rfl rfl rfl rfl (by first | exact tcs_s _ (by omega) | exact tcs_p _ (by omega) | exact tcs_u _ (by omega) | exact pe_s _ | exact pe_p _ | exact pe_u _ | rfl) (by first | exact tcs_set_s _ (by omega) _ | exact tcs_set_p _ (by omega) _ | exact tcs_set_u _ (by omega) _ | rfl) ?_))
   | ((refine z_sti 4 rfl rfl ?_; refine o_store4 rfl tabOk rfl rfl rfl rfl rfl (by first | exact tcs_s _ (by omega) | exact tcs_p _ (by omega) | exact tcs_u _ (by omega) | exact pe_s _ | exact pe_p _ | exact pe_u _ | rfl) (by first | exact tcs_set_s _ (by omega) _ | exact tcs_set_p _ (by omega) _ | exact tcs_set_u _ (by omega) _ | rfl) ?_))
   | ((refine z_sti 5 rfl rfl ?_; refine o_store5 rfl tabOk rfl rfl rfl rfl rfl (by first | exact tcs_s _ (by omega) | exact tcs_p _ (by omega) | exact tcs_u _ (by omega) | exact pe_s _ | exact pe_p _ | exact pe_u _ | rfl) (by first | exact tcs_set_s _ (by omega) _ | exact tcs_set_p _ (by omega) _ | exact tcs_set_u _ (by omega) _ | rfl) ?_))
   | ((refine z_sti 6 rfl rfl ?_; refine o_store6 rfl tabOk rfl rfl rfl rfl rfl (by first | exact tcs_s _ (by omega) | exact tcs_p _ (by omega) | exact tcs_u _ (by omega) | exact pe_s _ | exact pe_p _ | exact pe_u _ | rfl) (by first | exact tcs_set_s _ (by omega) _ | exact tcs_set_p _ (by omega) _ | exact tcs_set_u _ (by omega) _ | rfl) ?_))))
   | (refine z_iscall ?_; first
   | ((refine z_iscallf 54 ?_; refine o_callr rfl Try.func54 rfl rfl rfl (in_c _ _ _ _ (by first | exact cells_rds 0 rfl | exact cells_rds 1 rfl | exact cells_rds 2 rfl)) (by decide) ?_))
   | ((refine z_iscallf 57 ?_; refine o_callr rfl Try.func57 rfl rfl rfl (ralive_c _ _ _ _ (by first | exact cells_rds 0 rfl | exact cells_rds 1 rfl | exact cells_rds 2 rfl)) (by decide) ?_)))
   | (refine z_isix ?_; first
   | refine o_index0 tabOk rfl rfl rfl rfl (by omega) (by omega) (by decide) ?_
   | refine o_index1 tabOk rfl rfl rfl rfl (by omega) (by omega) (by decide) ?_
   | refine o_indexsk1 tabOk rfl rfl rfl rfl (by omega) (by omega) (by decide) ?_
   | refine o_indexsk tabOk rfl rfl rfl rfl (by omega) (by omega) (by decide) ?_
   | refine o_indexs1 tabOk (by first | assumption) rfl rfl rfl rfl (by omega) (by omega) (by decide) ?_)
   | refine o_move rfl (by decide) ?_
   | refine o_assign rfl (by decide) ?_
   | refine o_nil rfl (by decide) ?_
   | refine o_extract rfl rfl (by decide) ?_
   | refine o_not rfl (by decide) ?_
   | refine o_field0 tabOk rfl rfl rfl rfl rfl (by decide) ?_
   | refine o_field tabOk rfl rfl rfl rfl rfl (by decide) ?_
   | refine o_conv tabOk rfl rfl rfl (by decide) ?_))
theorem rnew_c (fr : List Chunk) : Does Try.prog 26 [] fr (fun _ : Nat => True) (fun g => .pointer (some ⟨g, 0, none⟩)) (fun g => cells g 69 (tcs first) :: fr) := by
  intro w hw
  refine f_enter Try.func26 rfl Try.ntmps26 rfl hw ?_
  repeat' (first
   | (refine s_is ?_; first
   | (refine s_isret ?_; first
   | (exact f_r1 rfl (res_t rfl) g trivial rfl (fun w h => by rw [← first_eq]; exact h)))
   | (refine s_isw ?_; first
   | refine c_seq ?_
   | refine c_block ?_
   | refine c_region ?_
   | refine c_mixed mixed (by kernel_rfl) ?_
   | refine c_skip ?_
   | refine c_ret ?_
   | refine c_exit ?_
   | (refine s_iscond ?_; first
   | (refine c_true rfl (by first | with_reducible rfl | with_reducible assumption | ((with_reducible refine decide_eq_true ?_); first | with_reducible rfl | with_reducible assumption | omega)) ?_)
   | (refine c_false rfl (by first | with_reducible rfl | with_reducible assumption | ((with_reducible refine decide_eq_false ?_); first | with_reducible assumption | omega)) ?_)
   | (refine c_true rfl (by first | (simp only [Bool.not_eq_true', decide_eq_false_iff_not]; omega) | (with_reducible assumption) | (rw [decide_eq_false] <;> (first | omega | with_reducible rfl)) | (rw [decide_eq_true] <;> (first | omega | with_reducible rfl)) | (simp; done) | (simp; omega)) ?_)
   | (refine c_false rfl (by first | (simp only [Bool.not_eq_false', decide_eq_true_eq]; omega) | (with_reducible assumption) | (rw [decide_eq_false] <;> (first | omega | with_reducible rfl)) | (rw [decide_eq_true] <;> (first | omega | with_reducible rfl)) | (simp; done) | (simp; omega)) ?_)
   | refine c_cond rfl (fun hc => ?_) (fun hc => ?_)
   | refine c_condb rfl (fun hc => ?_) (fun hc => ?_)))
   | refine x_then ?_
   | refine x_then_ret ?_
   | refine x_then_exit ?_
   | refine x_block _ ?_
   | refine x_block_ret _ ?_
   | refine x_block_exit _ ?_
   | refine x_block_past (by decide) ?_
   | refine z_tailm ?_)
   | (refine z_isnil ?_; first
   | refine z_list ?_
   | refine z_mixed ?_
   | refine z_mono0 ?_
   | refine z_mono1 (by decide) fun g => ?_
   | refine z_mono2 (by decide) (by decide) fun g g' => ?_
   | refine z_mixedx ?_
   | refine z_quiet ?_)
   | (refine z_isop ?_; first
   | refine o_indexm tabOk rfl rfl rfl rfl (by omega) (by omega) (by decide) ?_
   | refine o_build0 (t := 102) (v := .agg Pe.zero.cs.toArray) (fun _ => by kernel_rfl) (by decide) ?_
   | refine o_build0 (t := 66) (v := .agg Pe.zero.cs.toArray) (fun _ => by kernel_rfl) (by decide) ?_
   | refine o_alloca (e := 102) (vs := Pe.zero.cs) rfl (by kernel_rfl) (by decide) fun g => ?_
   | refine o_alloca (e := 66) (vs := Pe.zero.cs) rfl (by kernel_rfl) (by decide) fun g => ?_
   | refine o_build (t := 102) rfl build102o (by decide) ?_
   | refine o_build0 (t := 105) (v := .agg (tcs Tb.zero).toArray) (fun _ => by kernel_rfl) (by decide) ?_
   | refine o_build0 (t := 69) (v := .agg (tcs Tb.zero).toArray) (fun _ => by kernel_rfl) (by decide) ?_
   | refine o_boxa rfl rfl (by decide) fun g => ?_
   | (refine z_isstore ?_; first
   | (refine o_storew_at rfl 0 tabOk rfl rfl rfl rfl (pe_len _) (pe_one _) (by rw [tcs_len, pe_len]; omega) (tcs_put _ (by omega) _) ?_)
   | (refine o_storew_at rfl 1 tabOk rfl rfl rfl rfl (pe_len _) (pe_one _) (by rw [tcs_len, pe_len]; omega) (tcs_put _ (by omega) _) ?_)
   | (refine z_stw rfl ?_; first
   | ((refine z_sti 0 rfl rfl ?_; refine o_storeb0 rfl tabOk rfl rfl rfl (by first | exact tcs_len _ | exact pe_len _ | (simp only [tcs_len, pe_len]) | rfl) (by first | exact tcs_one _ | exact pe_one _ | rfl) (by first | exact tcs_len _ | exact pe_len _ | (simp only [tcs_len, pe_len]) | rfl) ?_))
   | ((refine z_sti 1 rfl rfl ?_; refine o_storeb1 rfl tabOk rfl rfl rfl (by first | exact tcs_len _ | exact pe_len _ | (simp only [tcs_len, pe_len]) | rfl) (by first | exact tcs_one _ | exact pe_one _ | rfl) (by first | exact tcs_len _ | exact pe_len _ | (simp only [tcs_len, pe_len]) | rfl) ?_))
   | ((refine z_sti 2 rfl rfl ?_; refine o_storeb2 rfl tabOk rfl rfl rfl (by first | exact tcs_len _ | exact pe_len _ | (simp only [tcs_len, pe_len]) | rfl) (by first | exact tcs_one _ | exact pe_one _ | rfl) (by first | exact tcs_len _ | exact pe_len _ | (simp only [tcs_len, pe_len]) | rfl) ?_))
   | ((refine z_sti 3 rfl rfl ?_; refine o_storeb3 rfl tabOk rfl rfl rfl (by first | exact tcs_len _ | exact pe_len _ | (simp only [tcs_len, pe_len]) | rfl) (by first | exact tcs_one _ | exact pe_one _ | rfl) (by first | exact tcs_len _ | exact pe_len _ | (simp only [tcs_len, pe_len]) | rfl) ?_))
   | ((refine z_sti 4 rfl rfl ?_; refine o_storeb4 rfl tabOk rfl rfl rfl (by first | exact tcs_len _ | exact pe_len _ | (simp only [tcs_len, pe_len]) | rfl) (by first | exact tcs_one _ | exact pe_one _ | rfl) (by first | exact tcs_len _ | exact pe_len _ | (simp only [tcs_len, pe_len]) | rfl) ?_))
   | ((refine z_sti 5 rfl rfl ?_; refine o_storeb5 rfl tabOk rfl rfl rfl (by first | exact tcs_len _ | exact pe_len _ | (simp only [tcs_len, pe_len]) | rfl) (by first | exact tcs_one _ | exact pe_one _ | rfl) (by first | exact tcs_len _ | exact pe_len _ | (simp only [tcs_len, pe_len]) | rfl) ?_))
   | ((refine z_sti 6 rfl rfl ?_; refine o_storeb6 rfl tabOk rfl rfl rfl (by first | exact tcs_len _ | exact pe_len _ | (simp only [tcs_len, pe_len]) | rfl) (by first | exact tcs_one _ | exact pe_one _ | rfl) (by first | exact tcs_len _ | exact pe_len _ | (simp only [tcs_len, pe_len]) | rfl) ?_)))
   | (refine z_st1 rfl rfl ?_; first
   | refine o_store rfl tabOk rfl rfl rfl rfl rfl (by first | exact tcs_s _ (by omega) | exact tcs_p _ (by omega) | exact tcs_u _ (by omega) | exact pe_s _ | exact pe_p _ | exact pe_u _ | rfl) (by first | exact tcs_set_s _ (by omega) _ | exact tcs_set_p _ (by omega) _ | exact tcs_set_u _ (by omega) _ | rfl) ?_
   | ((refine z_sti 1 rfl rfl ?_; refine o_store1 rfl tabOk rfl rfl rfl rfl rfl (by first | exact tcs_s _ (by omega) | exact tcs_p _ (by omega) | exact tcs_u _ (by omega) | exact pe_s _ | exact pe_p _ | exact pe_u _ | rfl) (by first | exact tcs_set_s _ (by omega) _ | exact tcs_set_p _ (by omega) _ | exact tcs_set_u _ (by omega) _ | rfl) ?_))
   | ((refine z_sti 2 rfl rfl ?_; refine o_store2 rfl tabOk rfl rfl rfl rfl rfl (by first | exact tcs_s _ (by omega) | exact tcs_p _ (by omega) | exact tcs_u _ (by omega) | exact pe_s _ | exact pe_p _ | exact pe_u _ | rfl) (by first | exact tcs_set_s _ (by omega) _ | exact tcs_set_p _ (by omega) _ | exact tcs_set_u _ (by omega) _ | rfl) ?_))
   | ((refine z_sti 3 rfl rfl ?_; refine o_store3 rfl tabOk rfl rfl rfl rfl rfl (by first | exact tcs_s _ (by omega) | exact tcs_p _ (by omega) | exact tcs_u _ (by omega) | exact pe_s _ | exact pe_p _ | exact pe_u _ | rfl) (by first | exact tcs_set_s _ (by omega) _ | exact tcs_set_p _ (by omega) _ | exact tcs_set_u _ (by omega) _ | rfl) ?_))
   | ((refine z_sti 4 rfl rfl ?_; refine o_store4 rfl tabOk rfl rfl rfl rfl rfl (by first | exact tcs_s _ (by omega) | exact tcs_p _ (by omega) | exact tcs_u _ (by omega) | exact pe_s _ | exact pe_p _ | exact pe_u _ | rfl) (by first | exact tcs_set_s _ (by omega) _ | exact tcs_set_p _ (by omega) _ | exact tcs_set_u _ (by omega) _ | rfl) ?_))
   | ((refine z_sti 5 rfl rfl ?_; refine o_store5 rfl tabOk rfl rfl rfl rfl rfl (by first | exact tcs_s _ (by omega) | exact tcs_p _ (by omega) | exact tcs_u _ (by omega) | exact pe_s _ | exact pe_p _ | exact pe_u _ | rfl) (by first | exact tcs_set_s _ (by omega) _ | exact tcs_set_p _ (by omega) _ | exact tcs_set_u _ (by omega) _ | rfl) ?_))
   | ((refine z_sti 6 rfl rfl ?_; refine o_store6 rfl tabOk rfl rfl rfl rfl rfl (by first | exact tcs_s _ (by omega) | exact tcs_p _ (by omega) | exact tcs_u _ (by omega) | exact pe_s _ | exact pe_p _ | exact pe_u _ | rfl) (by first | exact tcs_set_s _ (by omega) _ | exact tcs_set_p _ (by omega) _ | exact tcs_set_u _ (by omega) _ | rfl) ?_))))
   | (refine z_iscall ?_; first
   | ((refine z_iscallf 54 ?_; refine o_callr rfl Try.func54 rfl rfl rfl (in_c _ _ _ _ (by first | exact cells_rds 0 rfl | exact cells_rds 1 rfl | exact cells_rds 2 rfl)) (by decide) ?_))
   | ((refine z_iscallf 57 ?_; refine o_callr rfl Try.func57 rfl rfl rfl (ralive_c _ _ _ _ (by first | exact cells_rds 0 rfl | exact cells_rds 1 rfl | exact cells_rds 2 rfl)) (by decide) ?_)))
   | (refine z_isix ?_; first
   | refine o_index0 tabOk rfl rfl rfl rfl (by omega) (by omega) (by decide) ?_
   | refine o_index1 tabOk rfl rfl rfl rfl (by omega) (by omega) (by decide) ?_
   | refine o_indexsk1 tabOk rfl rfl rfl rfl (by omega) (by omega) (by decide) ?_
   | refine o_indexsk tabOk rfl rfl rfl rfl (by omega) (by omega) (by decide) ?_
   | refine o_indexs1 tabOk (by first | assumption) rfl rfl rfl rfl (by omega) (by omega) (by decide) ?_)
   | refine o_move rfl (by decide) ?_
   | refine o_assign rfl (by decide) ?_
   | refine o_nil rfl (by decide) ?_
   | refine o_extract rfl rfl (by decide) ?_
   | refine o_not rfl (by decide) ?_
   | refine o_field0 tabOk rfl rfl rfl rfl rfl (by decide) ?_
   | refine o_field tabOk rfl rfl rfl rfl rfl (by decide) ?_
   | refine o_conv tabOk rfl rfl rfl (by decide) ?_))
theorem alive_c (e : Tb) (b : Nat) (i : Int) (fr : List Chunk) (hrd : Rds fr (some ⟨b, 0, none⟩) (tcs e)) : Does Try.prog 28 [.pointer (some ⟨b, 0, none⟩), .int .i64 i] fr (fun _ : Unit => True) (fun _ => .bool (inB e i)) (fun _ => fr) := by
  intro w hw
  refine f_enter Try.func28 rfl Try.ntmps28 rfl hw ?_
  repeat' (first
   | (refine s_is ?_; first
   | (refine s_isret ?_; first
   | exact f_r1 rfl (res_t rfl) () trivial rfl (fun w h => h))
   | (refine s_isw ?_; first
   | refine c_seq ?_
   | refine c_block ?_
   | refine c_region ?_
   | refine c_mixed mixed (by kernel_rfl) ?_
   | refine c_skip ?_
   | refine c_ret ?_
   | refine c_exit ?_
   | (refine s_iscond ?_; first
   | (refine c_true rfl (by first | with_reducible rfl | with_reducible assumption | ((with_reducible refine decide_eq_true ?_); first | with_reducible rfl | with_reducible assumption | omega)) ?_)
   | (refine c_false rfl (by first | with_reducible rfl | with_reducible assumption | ((with_reducible refine decide_eq_false ?_); first | with_reducible assumption | omega)) ?_)
   | (refine c_true rfl (by first | (simp only [Bool.not_eq_true', decide_eq_false_iff_not]; omega) | (with_reducible assumption) | (rw [decide_eq_false] <;> (first | omega | with_reducible rfl)) | (rw [decide_eq_true] <;> (first | omega | with_reducible rfl)) | (simp; done) | (simp; omega)) ?_)
   | (refine c_false rfl (by first | (simp only [Bool.not_eq_false', decide_eq_true_eq]; omega) | (with_reducible assumption) | (rw [decide_eq_false] <;> (first | omega | with_reducible rfl)) | (rw [decide_eq_true] <;> (first | omega | with_reducible rfl)) | (simp; done) | (simp; omega)) ?_)
   | refine c_cond rfl (fun hc => ?_) (fun hc => ?_)
   | refine c_condb rfl (fun hc => ?_) (fun hc => ?_)))
   | refine x_then ?_
   | refine x_then_ret ?_
   | refine x_then_exit ?_
   | refine x_block _ ?_
   | refine x_block_ret _ ?_
   | refine x_block_exit _ ?_
   | refine x_block_past (by decide) ?_
   | refine z_tailm ?_)
   | (refine z_isnil ?_; first
   | refine z_list ?_
   | refine z_mixed ?_
   | refine z_mono0 ?_
   | refine z_mono1 (by decide) fun g => ?_
   | refine z_mono2 (by decide) (by decide) fun g g' => ?_
   | refine z_mixedx ?_
   | refine z_quiet ?_)
   | (refine z_isop ?_; first
   | refine o_indexm tabOk rfl rfl rfl rfl (by omega) (by omega) (by decide) ?_
   | refine o_build0 (t := 102) (v := .agg Pe.zero.cs.toArray) (fun _ => by kernel_rfl) (by decide) ?_
   | refine o_build0 (t := 66) (v := .agg Pe.zero.cs.toArray) (fun _ => by kernel_rfl) (by decide) ?_
   | refine o_alloca (e := 102) (vs := Pe.zero.cs) rfl (by kernel_rfl) (by decide) fun g => ?_
   | refine o_alloca (e := 66) (vs := Pe.zero.cs) rfl (by kernel_rfl) (by decide) fun g => ?_
   | refine o_build (t := 102) rfl build102o (by decide) ?_
   | refine o_build0 (t := 105) (v := .agg (tcs Tb.zero).toArray) (fun _ => by kernel_rfl) (by decide) ?_
   | refine o_build0 (t := 69) (v := .agg (tcs Tb.zero).toArray) (fun _ => by kernel_rfl) (by decide) ?_
   | refine o_boxa rfl rfl (by decide) fun g => ?_
   | (refine z_iscall ?_; first
   | ((refine z_iscallf 54 ?_; refine o_callr rfl Try.func54 rfl rfl rfl (in_c _ _ _ _ (by first | exact cells_rds 0 rfl | exact cells_rds 1 rfl | exact cells_rds 2 rfl)) (by decide) ?_))
   | ((refine z_iscallf 57 ?_; refine o_callr rfl Try.func57 rfl rfl rfl (ralive_c _ _ _ _ (by first | exact cells_rds 0 rfl | exact cells_rds 1 rfl | exact cells_rds 2 rfl)) (by decide) ?_))
   | ((refine z_iscallf 54 ?_; refine o_callr rfl Try.func54 rfl rfl rfl (in_c _ _ _ _ (by repeat (first | exact hrd | apply Rds.cons))) (by decide) ?_)))
   | refine o_move rfl (by decide) ?_
   | refine o_assign rfl (by decide) ?_
   | refine o_nil rfl (by decide) ?_
   | refine o_extract rfl rfl (by decide) ?_
   | refine o_not rfl (by decide) ?_
   | refine o_field0 tabOk rfl rfl rfl rfl rfl (by decide) ?_
   | refine o_field tabOk rfl rfl rfl rfl rfl (by decide) ?_
   | refine o_conv tabOk rfl rfl rfl (by decide) ?_))
theorem status_c (e : Tb) (b : Nat) (i : Int) (fr : List Chunk) (hrd : Rds fr (some ⟨b, 0, none⟩) (tcs e)) : Does Try.prog 29 [.pointer (some ⟨b, 0, none⟩), .int .i64 i] fr (fun _ : Unit => True) (fun _ => .tuple #[.int .u32 (stV e i), .bool (dnB e i)]) (fun _ => fr) := by
  intro w hw
  refine f_enter Try.func29 rfl Try.ntmps29 rfl hw ?_
  repeat' (first
   | (refine s_is ?_; first
   | (refine s_isret ?_; first
   | (exact f_r2 rfl (res_t rfl) (res_t rfl) () trivial (by have hd : dnB e i = true := (by simp [dnB]; omega); unfold stV; rw [if_pos hd, hd]) (fun w h => h))
   | (exact f_r2 rfl (res_t rfl) (res_t rfl) () trivial (by have hd : dnB e i = false := (by simp [dnB]; omega); unfold stV; rw [if_neg (by rw [hd]; simp), hd]) (fun w h => h)))
   | (refine s_isw ?_; first
   | refine c_seq ?_
   | refine c_block ?_
   | refine c_region ?_
   | refine c_mixed mixed (by kernel_rfl) ?_
   | refine c_skip ?_
   | refine c_ret ?_
   | refine c_exit ?_
   | (refine s_iscond ?_; first
   | (refine c_true rfl (by first | with_reducible rfl | with_reducible assumption | ((with_reducible refine decide_eq_true ?_); first | with_reducible rfl | with_reducible assumption | omega)) ?_)
   | (refine c_false rfl (by first | with_reducible rfl | with_reducible assumption | ((with_reducible refine decide_eq_false ?_); first | with_reducible assumption | omega)) ?_)
   | (refine c_true rfl (by first | (simp only [Bool.not_eq_true', decide_eq_false_iff_not]; omega) | (with_reducible assumption) | (rw [decide_eq_false] <;> (first | omega | with_reducible rfl)) | (rw [decide_eq_true] <;> (first | omega | with_reducible rfl)) | (simp; done) | (simp; omega)) ?_)
   | (refine c_false rfl (by first | (simp only [Bool.not_eq_false', decide_eq_true_eq]; omega) | (with_reducible assumption) | (rw [decide_eq_false] <;> (first | omega | with_reducible rfl)) | (rw [decide_eq_true] <;> (first | omega | with_reducible rfl)) | (simp; done) | (simp; omega)) ?_)
   | refine c_cond rfl (fun hc => ?_) (fun hc => ?_)
   | refine c_condb rfl (fun hc => ?_) (fun hc => ?_)))
   | refine x_then ?_
   | refine x_then_ret ?_
   | refine x_then_exit ?_
   | refine x_block _ ?_
   | refine x_block_ret _ ?_
   | refine x_block_exit _ ?_
   | refine x_block_past (by decide) ?_
   | refine z_tailm ?_)
   | (refine z_isg0 ?_; first
   | refine z_skipu (by decide) rfl rfl ?_
   | (refine z_want0 rfl rfl (by first | with_reducible rfl | with_reducible assumption | ((with_reducible refine decide_eq_false ?_); first | with_reducible assumption | omega)) ?_)
   | (refine z_skip0 (by decide) rfl rfl (by first | with_reducible rfl | with_reducible assumption | ((with_reducible refine decide_eq_true ?_); first | with_reducible rfl | with_reducible assumption | omega)) ?_)
   | (refine z_want0 rfl rfl (by first | (simp only [Bool.not_eq_false', decide_eq_true_eq]; omega) | (with_reducible assumption) | (rw [decide_eq_false] <;> (first | omega | with_reducible rfl)) | (rw [decide_eq_true] <;> (first | omega | with_reducible rfl)) | (simp; done) | (simp; omega)) ?_)
   | (refine z_skip0 (by decide) rfl rfl (by first | (simp only [Bool.not_eq_true', decide_eq_false_iff_not]; omega) | (with_reducible assumption) | (rw [decide_eq_false] <;> (first | omega | with_reducible rfl)) | (rw [decide_eq_true] <;> (first | omega | with_reducible rfl)) | (simp; done) | (simp; omega)) ?_)
   | refine z_guard0 (by decide) rfl rfl (fun hc => ?_) (fun hc => ?_)
   | refine z_guardb (by decide) rfl rfl (fun hc => ?_) (fun hc => ?_))
   | (refine z_isnil ?_; first
   | refine z_list ?_
   | refine z_mixed ?_
   | refine z_mono0 ?_
   | refine z_mono1 (by decide) fun g => ?_
   | refine z_mono2 (by decide) (by decide) fun g g' => ?_
   | refine z_mixedx ?_
   | refine z_quiet ?_)
   | (refine z_isop ?_; first
   | refine o_indexm tabOk rfl rfl rfl rfl (by omega) (by omega) (by decide) ?_
   | refine o_build0 (t := 102) (v := .agg Pe.zero.cs.toArray) (fun _ => by kernel_rfl) (by decide) ?_
   | refine o_build0 (t := 66) (v := .agg Pe.zero.cs.toArray) (fun _ => by kernel_rfl) (by decide) ?_
   | refine o_alloca (e := 102) (vs := Pe.zero.cs) rfl (by kernel_rfl) (by decide) fun g => ?_
   | refine o_alloca (e := 66) (vs := Pe.zero.cs) rfl (by kernel_rfl) (by decide) fun g => ?_
   | refine o_build (t := 102) rfl build102o (by decide) ?_
   | refine o_build0 (t := 105) (v := .agg (tcs Tb.zero).toArray) (fun _ => by kernel_rfl) (by decide) ?_
   | refine o_build0 (t := 69) (v := .agg (tcs Tb.zero).toArray) (fun _ => by kernel_rfl) (by decide) ?_
   | refine o_boxa rfl rfl (by decide) fun g => ?_
   | (refine z_isbin ?_; first
   | (refine z_isb .eql ?_; first
   | refine o_eq rfl rfl (by decide) ?_
   | refine o_beq tabOk rfl rfl rfl (by decide) ?_
   | refine o_peq tabOk rfl rfl (by decide) ?_)
   | (refine z_isb .neq ?_; first
   | refine o_ne rfl rfl (by decide) ?_
   | refine o_bne tabOk rfl rfl rfl (by decide) ?_
   | refine o_pne tabOk rfl rfl (by decide) ?_)
   | (refine z_isb .lss ?_; first
   | refine o_lt rfl rfl (by decide) ?_)
   | (refine z_isb .gtr ?_; first
   | refine o_gt rfl rfl (by decide) ?_))
   | (refine z_isload ?_; first
   | refine o_loadp tabOk rfl rfl rfl 0 rfl (pe_len _) (tcs_el _ (by omega)) (by decide) ?_
   | refine o_loadp tabOk rfl rfl rfl 1 rfl (pe_len _) (tcs_el _ (by omega)) (by decide) ?_
   | refine o_loadr tabOk hrd rfl rfl rfl (by first | exact tcs_s _ (by omega) | exact tcs_p _ (by omega) | exact tcs_u _ (by omega)) (by decide) ?_
   | (refine z_ld1 tabOk rfl rfl ?_; first
   | refine o_loadm tabOk rfl rfl rfl (by repeat' (first | exact List.mem_cons_self | apply List.mem_cons_of_mem)) (by first | exact tcs_s _ (by omega) | exact tcs_p _ (by omega) | exact tcs_u _ (by omega) | exact pe_s _ | exact pe_p _ | exact pe_u _ | rfl) (by decide) ?_
   | refine o_loads tabOk (by first | assumption | exact Rds.cons _ (by assumption) | exact Rds.cons _ (Rds.cons _ (by assumption)) | exact own_rds 0 rfl | exact own_rds 1 rfl | exact own_rds 2 rfl) rfl rfl rfl (by first | exact tcs_s _ (by omega) | exact tcs_p _ (by omega) | exact tcs_u _ (by omega) | exact pe_s _ | exact pe_p _ | exact pe_u _ | rfl) (by decide) ?_)
   | (refine z_ldw tabOk rfl rfl ?_; first
   | refine o_loadwm tabOk rfl rfl rfl (by repeat' (first | exact List.mem_cons_self | apply List.mem_cons_of_mem)) (by first | exact tcs_len _ | exact pe_len _ | (simp only [tcs_len, pe_len]) | rfl) (by decide) ?_))
   | (refine z_iscall ?_; first
   | ((refine z_iscallf 54 ?_; refine o_callr rfl Try.func54 rfl rfl rfl (in_c _ _ _ _ (by first | exact cells_rds 0 rfl | exact cells_rds 1 rfl | exact cells_rds 2 rfl)) (by decide) ?_))
   | ((refine z_iscallf 57 ?_; refine o_callr rfl Try.func57 rfl rfl rfl (ralive_c _ _ _ _ (by first | exact cells_rds 0 rfl | exact cells_rds 1 rfl | exact cells_rds 2 rfl)) (by decide) ?_))
   | ((refine z_iscallf 54 ?_; refine o_callr rfl Try.func54 rfl rfl rfl (in_c _ _ _ _ (by repeat (first | exact hrd | apply Rds.cons))) (by decide) ?_)))
   | (refine z_ispick ?_; first
   | (refine o_pick1 rfl (by first | with_reducible rfl | with_reducible assumption | ((with_reducible refine decide_eq_true ?_); first | with_reducible rfl | with_reducible assumption | omega)) rfl (by decide) ?_)
   | (refine o_pick0 rfl (by first | with_reducible rfl | with_reducible assumption | ((with_reducible refine decide_eq_false ?_); first | with_reducible assumption | omega)) rfl (by decide) ?_)
   | (refine o_pick1 rfl (by first | (simp only [Bool.not_eq_true', decide_eq_false_iff_not]; omega) | (with_reducible assumption) | (rw [decide_eq_false] <;> (first | omega | with_reducible rfl)) | (rw [decide_eq_true] <;> (first | omega | with_reducible rfl)) | (simp; done) | (simp; omega)) rfl (by decide) ?_)
   | (refine o_pick0 rfl (by first | (simp only [Bool.not_eq_false', decide_eq_true_eq]; omega) | (with_reducible assumption) | (rw [decide_eq_false] <;> (first | omega | with_reducible rfl)) | (rw [decide_eq_true] <;> (first | omega | with_reducible rfl)) | (simp; done) | (simp; omega)) rfl (by decide) ?_))
   | (refine z_isix ?_; first
   | refine o_index0 tabOk rfl rfl rfl rfl (by omega) (by omega) (by decide) ?_
   | refine o_index1 tabOk rfl rfl rfl rfl (by omega) (by omega) (by decide) ?_
   | refine o_indexsk1 tabOk rfl rfl rfl rfl (by omega) (by omega) (by decide) ?_
   | refine o_indexsk tabOk rfl rfl rfl rfl (by omega) (by omega) (by decide) ?_
   | refine o_indexs1 tabOk (by first | assumption) rfl rfl rfl rfl (by omega) (by omega) (by decide) ?_)
   | refine o_move rfl (by decide) ?_
   | refine o_assign rfl (by decide) ?_
   | refine o_nil rfl (by decide) ?_
   | refine o_extract rfl rfl (by decide) ?_
   | refine o_not rfl (by decide) ?_
   | refine o_field0 tabOk rfl rfl rfl rfl rfl (by decide) ?_
   | refine o_field tabOk rfl rfl rfl rfl rfl (by decide) ?_
   | refine o_conv tabOk rfl rfl rfl (by decide) ?_))
theorem parent_c (e : Tb) (b : Nat) (i : Int) (fr : List Chunk) (hrd : Rds fr (some ⟨b, 0, none⟩) (tcs e)) : Does Try.prog 30 [.pointer (some ⟨b, 0, none⟩), .int .i64 i] fr (fun _ : Unit => True) (fun _ => .int .i64 (paV e i)) (fun _ => fr) := by
  intro w hw
  refine f_enter Try.func30 rfl Try.ntmps30 rfl hw ?_
  repeat' (first
   | (refine s_is ?_; first
   | (refine s_isret ?_; first
   | (exact f_r1 rfl (res_t rfl) () trivial (by have hd : paB e i = true := (by simp [paB]; omega); unfold paV; rw [if_pos hd]) (fun w h => h))
   | (exact f_r1 rfl (res_t rfl) () trivial (by have hd : paB e i = false := (by simp [paB]; omega); unfold paV; rw [if_neg (by rw [hd]; simp)]) (fun w h => h)))
   | (refine s_isw ?_; first
   | refine c_seq ?_
   | refine c_block ?_
   | refine c_region ?_
   | refine c_mixed mixed (by kernel_rfl) ?_
   | refine c_skip ?_
   | refine c_ret ?_
   | refine c_exit ?_
   | (refine s_iscond ?_; first
   | (refine c_true rfl (by first | with_reducible rfl | with_reducible assumption | ((with_reducible refine decide_eq_true ?_); first | with_reducible rfl | with_reducible assumption | omega)) ?_)
   | (refine c_false rfl (by first | with_reducible rfl | with_reducible assumption | ((with_reducible refine decide_eq_false ?_); first | with_reducible assumption | omega)) ?_)
   | (refine c_true rfl (by first | (simp only [Bool.not_eq_true', decide_eq_false_iff_not]; omega) | (with_reducible assumption) | (rw [decide_eq_false] <;> (first | omega | with_reducible rfl)) | (rw [decide_eq_true] <;> (first | omega | with_reducible rfl)) | (simp; done) | (simp; omega)) ?_)
   | (refine c_false rfl (by first | (simp only [Bool.not_eq_false', decide_eq_true_eq]; omega) | (with_reducible assumption) | (rw [decide_eq_false] <;> (first | omega | with_reducible rfl)) | (rw [decide_eq_true] <;> (first | omega | with_reducible rfl)) | (simp; done) | (simp; omega)) ?_)
   | refine c_cond rfl (fun hc => ?_) (fun hc => ?_)
   | refine c_condb rfl (fun hc => ?_) (fun hc => ?_)))
   | refine x_then ?_
   | refine x_then_ret ?_
   | refine x_then_exit ?_
   | refine x_block _ ?_
   | refine x_block_ret _ ?_
   | refine x_block_exit _ ?_
   | refine x_block_past (by decide) ?_
   | refine z_tailm ?_)
   | (refine z_isg0 ?_; first
   | refine z_skipu (by decide) rfl rfl ?_
   | (refine z_want0 rfl rfl (by first | with_reducible rfl | with_reducible assumption | ((with_reducible refine decide_eq_false ?_); first | with_reducible assumption | omega)) ?_)
   | (refine z_skip0 (by decide) rfl rfl (by first | with_reducible rfl | with_reducible assumption | ((with_reducible refine decide_eq_true ?_); first | with_reducible rfl | with_reducible assumption | omega)) ?_)
   | (refine z_want0 rfl rfl (by first | (simp only [Bool.not_eq_false', decide_eq_true_eq]; omega) | (with_reducible assumption) | (rw [decide_eq_false] <;> (first | omega | with_reducible rfl)) | (rw [decide_eq_true] <;> (first | omega | with_reducible rfl)) | (simp; done) | (simp; omega)) ?_)
   | (refine z_skip0 (by decide) rfl rfl (by first | (simp only [Bool.not_eq_true', decide_eq_false_iff_not]; omega) | (with_reducible assumption) | (rw [decide_eq_false] <;> (first | omega | with_reducible rfl)) | (rw [decide_eq_true] <;> (first | omega | with_reducible rfl)) | (simp; done) | (simp; omega)) ?_)
   | refine z_guard0 (by decide) rfl rfl (fun hc => ?_) (fun hc => ?_)
   | refine z_guardb (by decide) rfl rfl (fun hc => ?_) (fun hc => ?_))
   | (refine z_isnil ?_; first
   | refine z_list ?_
   | refine z_mixed ?_
   | refine z_mono0 ?_
   | refine z_mono1 (by decide) fun g => ?_
   | refine z_mono2 (by decide) (by decide) fun g g' => ?_
   | refine z_mixedx ?_
   | refine z_quiet ?_)
   | (refine z_isop ?_; first
   | refine o_indexm tabOk rfl rfl rfl rfl (by omega) (by omega) (by decide) ?_
   | refine o_build0 (t := 102) (v := .agg Pe.zero.cs.toArray) (fun _ => by kernel_rfl) (by decide) ?_
   | refine o_build0 (t := 66) (v := .agg Pe.zero.cs.toArray) (fun _ => by kernel_rfl) (by decide) ?_
   | refine o_alloca (e := 102) (vs := Pe.zero.cs) rfl (by kernel_rfl) (by decide) fun g => ?_
   | refine o_alloca (e := 66) (vs := Pe.zero.cs) rfl (by kernel_rfl) (by decide) fun g => ?_
   | refine o_build (t := 102) rfl build102o (by decide) ?_
   | refine o_build0 (t := 105) (v := .agg (tcs Tb.zero).toArray) (fun _ => by kernel_rfl) (by decide) ?_
   | refine o_build0 (t := 69) (v := .agg (tcs Tb.zero).toArray) (fun _ => by kernel_rfl) (by decide) ?_
   | refine o_boxa rfl rfl (by decide) fun g => ?_
   | (refine z_isbin ?_; first
   | (refine z_isb .eql ?_; first
   | refine o_eq rfl rfl (by decide) ?_
   | refine o_beq tabOk rfl rfl rfl (by decide) ?_
   | refine o_peq tabOk rfl rfl (by decide) ?_)
   | (refine z_isb .lss ?_; first
   | refine o_lt rfl rfl (by decide) ?_)
   | (refine z_isb .gtr ?_; first
   | refine o_gt rfl rfl (by decide) ?_))
   | (refine z_isload ?_; first
   | refine o_loadp tabOk rfl rfl rfl 0 rfl (pe_len _) (tcs_el _ (by omega)) (by decide) ?_
   | refine o_loadp tabOk rfl rfl rfl 1 rfl (pe_len _) (tcs_el _ (by omega)) (by decide) ?_
   | refine o_loadr tabOk hrd rfl rfl rfl (by first | exact tcs_s _ (by omega) | exact tcs_p _ (by omega) | exact tcs_u _ (by omega)) (by decide) ?_
   | (refine z_ld1 tabOk rfl rfl ?_; first
   | refine o_loadm tabOk rfl rfl rfl (by repeat' (first | exact List.mem_cons_self | apply List.mem_cons_of_mem)) (by first | exact tcs_s _ (by omega) | exact tcs_p _ (by omega) | exact tcs_u _ (by omega) | exact pe_s _ | exact pe_p _ | exact pe_u _ | rfl) (by decide) ?_
   | refine o_loads tabOk (by first | assumption | exact Rds.cons _ (by assumption) | exact Rds.cons _ (Rds.cons _ (by assumption)) | exact own_rds 0 rfl | exact own_rds 1 rfl | exact own_rds 2 rfl) rfl rfl rfl (by first | exact tcs_s _ (by omega) | exact tcs_p _ (by omega) | exact tcs_u _ (by omega) | exact pe_s _ | exact pe_p _ | exact pe_u _ | rfl) (by decide) ?_)
   | (refine z_ldw tabOk rfl rfl ?_; first
   | refine o_loadwm tabOk rfl rfl rfl (by repeat' (first | exact List.mem_cons_self | apply List.mem_cons_of_mem)) (by first | exact tcs_len _ | exact pe_len _ | (simp only [tcs_len, pe_len]) | rfl) (by decide) ?_))
   | (refine z_iscall ?_; first
   | ((refine z_iscallf 54 ?_; refine o_callr rfl Try.func54 rfl rfl rfl (in_c _ _ _ _ (by first | exact cells_rds 0 rfl | exact cells_rds 1 rfl | exact cells_rds 2 rfl)) (by decide) ?_))
   | ((refine z_iscallf 57 ?_; refine o_callr rfl Try.func57 rfl rfl rfl (ralive_c _ _ _ _ (by first | exact cells_rds 0 rfl | exact cells_rds 1 rfl | exact cells_rds 2 rfl)) (by decide) ?_))
   | ((refine z_iscallf 54 ?_; refine o_callr rfl Try.func54 rfl rfl rfl (in_c _ _ _ _ (by repeat (first | exact hrd | apply Rds.cons))) (by decide) ?_)))
   | (refine z_ispick ?_; first
   | (refine o_pick1 rfl (by first | with_reducible rfl | with_reducible assumption | ((with_reducible refine decide_eq_true ?_); first | with_reducible rfl | with_reducible assumption | omega)) rfl (by decide) ?_)
   | (refine o_pick0 rfl (by first | with_reducible rfl | with_reducible assumption | ((with_reducible refine decide_eq_false ?_); first | with_reducible assumption | omega)) rfl (by decide) ?_)
   | (refine o_pick1 rfl (by first | (simp only [Bool.not_eq_true', decide_eq_false_iff_not]; omega) | (with_reducible assumption) | (rw [decide_eq_false] <;> (first | omega | with_reducible rfl)) | (rw [decide_eq_true] <;> (first | omega | with_reducible rfl)) | (simp; done) | (simp; omega)) rfl (by decide) ?_)
   | (refine o_pick0 rfl (by first | (simp only [Bool.not_eq_false', decide_eq_true_eq]; omega) | (with_reducible assumption) | (rw [decide_eq_false] <;> (first | omega | with_reducible rfl)) | (rw [decide_eq_true] <;> (first | omega | with_reducible rfl)) | (simp; done) | (simp; omega)) rfl (by decide) ?_))
   | (refine z_isix ?_; first
   | refine o_index0 tabOk rfl rfl rfl rfl (by omega) (by omega) (by decide) ?_
   | refine o_index1 tabOk rfl rfl rfl rfl (by omega) (by omega) (by decide) ?_
   | refine o_indexsk1 tabOk rfl rfl rfl rfl (by omega) (by omega) (by decide) ?_
   | refine o_indexsk tabOk rfl rfl rfl rfl (by omega) (by omega) (by decide) ?_
   | refine o_indexs1 tabOk (by first | assumption) rfl rfl rfl rfl (by omega) (by omega) (by decide) ?_)
   | refine o_move rfl (by decide) ?_
   | refine o_assign rfl (by decide) ?_
   | refine o_nil rfl (by decide) ?_
   | refine o_extract rfl rfl (by decide) ?_
   | refine o_not rfl (by decide) ?_
   | refine o_field0 tabOk rfl rfl rfl rfl rfl (by decide) ?_
   | refine o_field tabOk rfl rfl rfl rfl rfl (by decide) ?_
   | refine o_conv tabOk rfl rfl rfl (by decide) ?_))
theorem living_c (e : Tb) (b : Nat) (fr : List Chunk) (hrd : Rds fr (some ⟨b, 0, none⟩) (tcs e)) : Does Try.prog 33 [.pointer (some ⟨b, 0, none⟩)] fr (fun _ : Option Addr × Nat => True) (fun x => .slice x.1 (lvN e 7).length x.2) (fun x => own x.1 x.2 3 1 (lvN e 7).length (i64p (lvN e 7)) :: fr) := by
  intro w hw
  refine f_enter Try.func33 rfl Try.ntmps33 rfl hw ?_
  repeat' (first
   | (refine s_is ?_; first
   | (refine s_isw ?_; first
   | (refine s_isloop ?_; first
   | ((refine c_loop (X := Option Addr × Nat × Nat) (fun y => y.2.2 ≤ 7) (fun y => [(0, .pointer (some ⟨b, 0, none⟩)), (3, .slice y.1 (lvN e y.2.2).length y.2.1), (4, .int .i64 ((y.2.2 : Int) + 1))]) (fun y => own y.1 y.2.1 3 1 (lvN e y.2.2).length (i64p (lvN e y.2.2)) :: fr) (fun y => 7 - y.2.2) (none, 0, 0) (Nat.zero_le _) ⟨rfl, (by dsimp only; rw [lvN_zero]; rfl), rfl, trivial⟩ (fun w h => by dsimp only; rw [lvN_zero, i64p_nil]; exact h.nil 3 1) (fun y hi => ?_); obtain ⟨A, c, n⟩ := y; dsimp only at hi ⊢; refine hold ?_)))
   | refine c_seq ?_
   | refine c_block ?_
   | refine c_region ?_
   | refine c_mixed mixed (by kernel_rfl) ?_
   | refine c_skip ?_
   | refine c_ret ?_
   | refine c_exit ?_
   | (refine s_iscond ?_; first
   | (refine c_true rfl (by first | with_reducible rfl | with_reducible assumption | ((with_reducible refine decide_eq_true ?_); first | with_reducible rfl | with_reducible assumption | omega)) ?_)
   | (refine c_false rfl (by first | with_reducible rfl | with_reducible assumption | ((with_reducible refine decide_eq_false ?_); first | with_reducible assumption | omega)) ?_)
   | (refine c_true rfl (by first | (simp only [Bool.not_eq_true', decide_eq_false_iff_not]; omega) | (with_reducible assumption) | (rw [decide_eq_false] <;> (first | omega | with_reducible rfl)) | (rw [decide_eq_true] <;> (first | omega | with_reducible rfl)) | (simp; done) | (simp; omega)) ?_)
   | (refine c_false rfl (by first | (simp only [Bool.not_eq_false', decide_eq_true_eq]; omega) | (with_reducible assumption) | (rw [decide_eq_false] <;> (first | omega | with_reducible rfl)) | (rw [decide_eq_true] <;> (first | omega | with_reducible rfl)) | (simp; done) | (simp; omega)) ?_)
   | refine c_cond rfl (fun hc => ?_) (fun hc => ?_)
   | refine c_condb rfl (fun hc => ?_) (fun hc => ?_)))
   | refine x_then ?_
   | refine x_then_ret ?_
   | refine x_then_exit ?_
   | refine x_block _ ?_
   | refine x_block_ret _ ?_
   | refine x_block_exit _ ?_
   | refine x_block_past (by decide) ?_
   | refine z_tailm ?_)
   | (refine z_isnil ?_; first
   | refine z_list ?_
   | refine z_mixed ?_
   | refine z_mono0 ?_
   | refine z_mono1 (by decide) fun g => ?_
   | refine z_mono2 (by decide) (by decide) fun g g' => ?_
   | refine z_mixedx ?_
   | refine z_quiet ?_)
   | (refine z_isop ?_; first
   | refine o_indexm tabOk rfl rfl rfl rfl (by omega) (by omega) (by decide) ?_
   | refine o_build0 (t := 102) (v := .agg Pe.zero.cs.toArray) (fun _ => by kernel_rfl) (by decide) ?_
   | refine o_build0 (t := 66) (v := .agg Pe.zero.cs.toArray) (fun _ => by kernel_rfl) (by decide) ?_
   | refine o_alloca (e := 102) (vs := Pe.zero.cs) rfl (by kernel_rfl) (by decide) fun g => ?_
   | refine o_alloca (e := 66) (vs := Pe.zero.cs) rfl (by kernel_rfl) (by decide) fun g => ?_
   | refine o_build (t := 102) rfl build102o (by decide) ?_
   | refine o_build0 (t := 105) (v := .agg (tcs Tb.zero).toArray) (fun _ => by kernel_rfl) (by decide) ?_
   | refine o_build0 (t := 69) (v := .agg (tcs Tb.zero).toArray) (fun _ => by kernel_rfl) (by decide) ?_
   | refine o_boxa rfl rfl (by decide) fun g => ?_
   | (refine z_isbin ?_; first
   | (refine z_isb .add ?_; first
   | refine o_add rfl rfl (by omega) (by omega) (by decide) ?_
   | refine o_addw rfl rfl (by decide) ?_)
   | (refine z_isb .leq ?_; first
   | refine o_le rfl rfl (by decide) ?_))
   | (refine z_ismakes ?_; first
   | refine o_make1 rfl tabOk zeroOk rfl rfl rfl rfl rfl (by decide) fun g => ?_)
   | (refine z_iscall ?_; first
   | ((refine z_iscallf 54 ?_; refine o_callr rfl Try.func54 rfl rfl rfl (in_c _ _ _ _ (by first | exact cells_rds 0 rfl | exact cells_rds 1 rfl | exact cells_rds 2 rfl)) (by decide) ?_))
   | ((refine z_iscallf 57 ?_; refine o_callr rfl Try.func57 rfl rfl rfl (ralive_c _ _ _ _ (by first | exact cells_rds 0 rfl | exact cells_rds 1 rfl | exact cells_rds 2 rfl)) (by decide) ?_))
   | ((refine z_iscallf 54 ?_; refine o_callr rfl Try.func54 rfl rfl rfl (in_c _ _ _ _ (by repeat (first | exact hrd | apply Rds.cons))) (by decide) ?_)))
   | (refine z_isbi ?_; first
   | refine o_len tabOk rfl rfl (by decide) ?_
   | refine o_min rfl rfl (by decide) ?_
   | refine o_max rfl rfl (by decide) ?_
   | (refine o_append0 rfl tabOk zeroOk rfl rfl rfl rfl rfl rfl (by first | assumption | exact Rds.cons _ (by assumption) | exact Rds.cons _ (Rds.cons _ (by assumption)) | exact own_rds 0 rfl | exact own_rds 1 rfl | exact own_rds 2 rfl) (by first | rfl | (simp; done)) (by first | rfl | (simp; done)) (by omega) (by omega) (by decide) fun A' c' => ?_)
   | (refine o_append rfl tabOk zeroOk rfl rfl rfl rfl rfl rfl (by first | assumption | exact Rds.cons _ (by assumption) | exact Rds.cons _ (Rds.cons _ (by assumption)) | exact own_rds 0 rfl | exact own_rds 1 rfl | exact own_rds 2 rfl) (by first | rfl | (simp; done)) (by first | rfl | (simp; done)) (by omega) (by omega) (by decide) fun A' c' => ?_)
   | (refine z_front rfl 1 rfl ?_; refine o_append rfl tabOk zeroOk rfl rfl rfl rfl rfl rfl (by first | assumption | exact Rds.cons _ (by assumption) | exact Rds.cons _ (Rds.cons _ (by assumption)) | exact own_rds 0 rfl | exact own_rds 1 rfl | exact own_rds 2 rfl) (by first | rfl | (simp; done)) (by first | rfl | (simp; done)) (by omega) (by omega) (by decide) fun A' c' => ?_)
   | (refine z_front rfl 2 rfl ?_; refine o_append rfl tabOk zeroOk rfl rfl rfl rfl rfl rfl (by first | assumption | exact Rds.cons _ (by assumption) | exact Rds.cons _ (Rds.cons _ (by assumption)) | exact own_rds 0 rfl | exact own_rds 1 rfl | exact own_rds 2 rfl) (by first | rfl | (simp; done)) (by first | rfl | (simp; done)) (by omega) (by omega) (by decide) fun A' c' => ?_)
   | (refine z_front rfl 3 rfl ?_; refine o_append rfl tabOk zeroOk rfl rfl rfl rfl rfl rfl (by first | assumption | exact Rds.cons _ (by assumption) | exact Rds.cons _ (Rds.cons _ (by assumption)) | exact own_rds 0 rfl | exact own_rds 1 rfl | exact own_rds 2 rfl) (by first | rfl | (simp; done)) (by first | rfl | (simp; done)) (by omega) (by omega) (by decide) fun A' c' => ?_)
   | (refine z_front rfl 4 rfl ?_; refine o_append rfl tabOk zeroOk rfl rfl rfl rfl rfl rfl (by first | assumption | exact Rds.cons _ (by assumption) | exact Rds.cons _ (Rds.cons _ (by assumption)) | exact own_rds 0 rfl | exact own_rds 1 rfl | exact own_rds 2 rfl) (by first | rfl | (simp; done)) (by first | rfl | (simp; done)) (by omega) (by omega) (by decide) fun A' c' => ?_)
   | (refine z_front rfl 5 rfl ?_; refine o_append rfl tabOk zeroOk rfl rfl rfl rfl rfl rfl (by first | assumption | exact Rds.cons _ (by assumption) | exact Rds.cons _ (Rds.cons _ (by assumption)) | exact own_rds 0 rfl | exact own_rds 1 rfl | exact own_rds 2 rfl) (by first | rfl | (simp; done)) (by first | rfl | (simp; done)) (by omega) (by omega) (by decide) fun A' c' => ?_))
   | refine o_move rfl (by decide) ?_
   | refine o_assign rfl (by decide) ?_
   | refine o_nil rfl (by decide) ?_
   | refine o_extract rfl rfl (by decide) ?_
   | refine o_not rfl (by decide) ?_
   | refine o_field0 tabOk rfl rfl rfl rfl rfl (by decide) ?_
   | refine o_field tabOk rfl rfl rfl rfl rfl (by decide) ?_
   | refine o_conv tabOk rfl rfl rfl (by decide) ?_))
  refine Hold.go ?_
  have hl := lvN_le e n
  by_cases h7 : n < 7
  · rcases Bool.eq_false_or_eq_true (inB e ((n : Int) + 1)) with hin | hin
    · have h1 := lvN_yes hin
      repeat' (first
       | (refine s_is ?_; first
       | (refine s_isagain ?_; first
       | (exact c_again (A', c', n + 1) (by dsimp only; omega) (by dsimp only; omega) ⟨rfl, (by dsimp only; rw [h1, List.length_append]; rfl), rfl, trivial⟩ (fun w h => by dsimp only; rw [h1, i64p_add, List.length_append]; exact ((h.sel 2 [0, 1] (by decide)).mask [true, false]))))
       | (refine s_isw ?_; first
       | refine c_seq ?_
       | refine c_block ?_
       | refine c_region ?_
       | refine c_mixed mixed (by kernel_rfl) ?_
       | refine c_skip ?_
       | refine c_ret ?_
       | refine c_exit ?_
       | (refine s_iscond ?_; first
       | (refine c_true rfl (by first | with_reducible rfl | with_reducible assumption | ((with_reducible refine decide_eq_true ?_); first | with_reducible rfl | with_reducible assumption | omega)) ?_)
       | (refine c_false rfl (by first | with_reducible rfl | with_reducible assumption | ((with_reducible refine decide_eq_false ?_); first | with_reducible assumption | omega)) ?_)
       | (refine c_true rfl (by first | (simp only [Bool.not_eq_true', decide_eq_false_iff_not]; omega) | (with_reducible assumption) | (rw [decide_eq_false] <;> (first | omega | with_reducible rfl)) | (rw [decide_eq_true] <;> (first | omega | with_reducible rfl)) | (simp; done) | (simp; omega)) ?_)
       | (refine c_false rfl (by first | (simp only [Bool.not_eq_false', decide_eq_true_eq]; omega) | (with_reducible assumption) | (rw [decide_eq_false] <;> (first | omega | with_reducible rfl)) | (rw [decide_eq_true] <;> (first | omega | with_reducible rfl)) | (simp; done) | (simp; omega)) ?_)
       | refine c_cond rfl (fun hc => ?_) (fun hc => ?_)
       | refine c_condb rfl (fun hc => ?_) (fun hc => ?_)))
       | refine x_then ?_
       | refine x_then_ret ?_
       | refine x_then_exit ?_
       | refine x_block _ ?_
       | refine x_block_ret _ ?_
       | refine x_block_exit _ ?_
       | refine x_block_past (by decide) ?_
       | refine z_tailm ?_)
       | (refine z_isnil ?_; first
       | refine z_list ?_
       | refine z_mixed ?_
       | refine z_mono0 ?_
       | refine z_mono1 (by decide) fun g => ?_
       | refine z_mono2 (by decide) (by decide) fun g g' => ?_
       | refine z_mixedx ?_
       | refine z_quiet ?_)
       | (refine z_isop ?_; first
       | refine o_indexm tabOk rfl rfl rfl rfl (by omega) (by omega) (by decide) ?_
       | refine o_build0 (t := 102) (v := .agg Pe.zero.cs.toArray) (fun _ => by kernel_rfl) (by decide) ?_
       | refine o_build0 (t := 66) (v := .agg Pe.zero.cs.toArray) (fun _ => by kernel_rfl) (by decide) ?_
       | refine o_alloca (e := 102) (vs := Pe.zero.cs) rfl (by kernel_rfl) (by decide) fun g => ?_
       | refine o_alloca (e := 66) (vs := Pe.zero.cs) rfl (by kernel_rfl) (by decide) fun g => ?_
       | refine o_build (t := 102) rfl build102o (by decide) ?_
       | refine o_build0 (t := 105) (v := .agg (tcs Tb.zero).toArray) (fun _ => by kernel_rfl) (by decide) ?_
       | refine o_build0 (t := 69) (v := .agg (tcs Tb.zero).toArray) (fun _ => by kernel_rfl) (by decide) ?_
       | refine o_boxa rfl rfl (by decide) fun g => ?_
       | (refine z_isbin ?_; first
       | (refine z_isb .add ?_; first
       | refine o_add rfl rfl (by omega) (by omega) (by decide) ?_
       | refine o_addw rfl rfl (by decide) ?_)
       | (refine z_isb .leq ?_; first
       | refine o_le rfl rfl (by decide) ?_))
       | (refine z_ismakes ?_; first
       | refine o_make1 rfl tabOk zeroOk rfl rfl rfl rfl rfl (by decide) fun g => ?_)
       | (refine z_iscall ?_; first
       | ((refine z_iscallf 54 ?_; refine o_callr rfl Try.func54 rfl rfl rfl (in_c _ _ _ _ (by first | exact cells_rds 0 rfl | exact cells_rds 1 rfl | exact cells_rds 2 rfl)) (by decide) ?_))
       | ((refine z_iscallf 57 ?_; refine o_callr rfl Try.func57 rfl rfl rfl (ralive_c _ _ _ _ (by first | exact cells_rds 0 rfl | exact cells_rds 1 rfl | exact cells_rds 2 rfl)) (by decide) ?_))
       | ((refine z_iscallf 54 ?_; refine o_callr rfl Try.func54 rfl rfl rfl (in_c _ _ _ _ (by repeat (first | exact hrd | apply Rds.cons))) (by decide) ?_)))
       | (refine z_isbi ?_; first
       | refine o_len tabOk rfl rfl (by decide) ?_
       | refine o_min rfl rfl (by decide) ?_
       | refine o_max rfl rfl (by decide) ?_
       | (refine o_append0 rfl tabOk zeroOk rfl rfl rfl rfl rfl rfl (by first | assumption | exact Rds.cons _ (by assumption) | exact Rds.cons _ (Rds.cons _ (by assumption)) | exact own_rds 0 rfl | exact own_rds 1 rfl | exact own_rds 2 rfl) (by first | rfl | (simp; done)) (by first | rfl | (simp; done)) (by omega) (by omega) (by decide) fun A' c' => ?_)
       | (refine o_append rfl tabOk zeroOk rfl rfl rfl rfl rfl rfl (by first | assumption | exact Rds.cons _ (by assumption) | exact Rds.cons _ (Rds.cons _ (by assumption)) | exact own_rds 0 rfl | exact own_rds 1 rfl | exact own_rds 2 rfl) (by first | rfl | (simp; done)) (by first | rfl | (simp; done)) (by omega) (by omega) (by decide) fun A' c' => ?_)
       | (refine z_front rfl 1 rfl ?_; refine o_append rfl tabOk zeroOk rfl rfl rfl rfl rfl rfl (by first | assumption | exact Rds.cons _ (by assumption) | exact Rds.cons _ (Rds.cons _ (by assumption)) | exact own_rds 0 rfl | exact own_rds 1 rfl | exact own_rds 2 rfl) (by first | rfl | (simp; done)) (by first | rfl | (simp; done)) (by omega) (by omega) (by decide) fun A' c' => ?_)
       | (refine z_front rfl 2 rfl ?_; refine o_append rfl tabOk zeroOk rfl rfl rfl rfl rfl rfl (by first | assumption | exact Rds.cons _ (by assumption) | exact Rds.cons _ (Rds.cons _ (by assumption)) | exact own_rds 0 rfl | exact own_rds 1 rfl | exact own_rds 2 rfl) (by first | rfl | (simp; done)) (by first | rfl | (simp; done)) (by omega) (by omega) (by decide) fun A' c' => ?_)
       | (refine z_front rfl 3 rfl ?_; refine o_append rfl tabOk zeroOk rfl rfl rfl rfl rfl rfl (by first | assumption | exact Rds.cons _ (by assumption) | exact Rds.cons _ (Rds.cons _ (by assumption)) | exact own_rds 0 rfl | exact own_rds 1 rfl | exact own_rds 2 rfl) (by first | rfl | (simp; done)) (by first | rfl | (simp; done)) (by omega) (by omega) (by decide) fun A' c' => ?_)
       | (refine z_front rfl 4 rfl ?_; refine o_append rfl tabOk zeroOk rfl rfl rfl rfl rfl rfl (by first | assumption | exact Rds.cons _ (by assumption) | exact Rds.cons _ (Rds.cons _ (by assumption)) | exact own_rds 0 rfl | exact own_rds 1 rfl | exact own_rds 2 rfl) (by first | rfl | (simp; done)) (by first | rfl | (simp; done)) (by omega) (by omega) (by decide) fun A' c' => ?_)
       | (refine z_front rfl 5 rfl ?_; refine o_append rfl tabOk zeroOk rfl rfl rfl rfl rfl rfl (by first | assumption | exact Rds.cons _ (by assumption) | exact Rds.cons _ (Rds.cons _ (by assumption)) | exact own_rds 0 rfl | exact own_rds 1 rfl | exact own_rds 2 rfl) (by first | rfl | (simp; done)) (by first | rfl | (simp; done)) (by omega) (by omega) (by decide) fun A' c' => ?_))
       | refine o_move rfl (by decide) ?_
       | refine o_assign rfl (by decide) ?_
       | refine o_nil rfl (by decide) ?_
       | refine o_extract rfl rfl (by decide) ?_
       | refine o_not rfl (by decide) ?_
       | refine o_field0 tabOk rfl rfl rfl rfl rfl (by decide) ?_
       | refine o_field tabOk rfl rfl rfl rfl rfl (by decide) ?_
       | refine o_conv tabOk rfl rfl rfl (by decide) ?_))
    · have h1 := lvN_no hin
      repeat' (first
       | (refine s_is ?_; first
       | (refine s_isagain ?_; first
       | (exact c_again (A, c, n + 1) (by dsimp only; omega) (by dsimp only; omega) ⟨rfl, (by dsimp only; rw [h1]; rfl), rfl, trivial⟩ (fun w h => by dsimp only; rw [h1]; exact h)))
       | (refine s_isw ?_; first
       | refine c_seq ?_
       | refine c_block ?_
       | refine c_region ?_
       | refine c_mixed mixed (by kernel_rfl) ?_
       | refine c_skip ?_
       | refine c_ret ?_
       | refine c_exit ?_
       | (refine s_iscond ?_; first
       | (refine c_true rfl (by first | with_reducible rfl | with_reducible assumption | ((with_reducible refine decide_eq_true ?_); first | with_reducible rfl | with_reducible assumption | omega)) ?_)
       | (refine c_false rfl (by first | with_reducible rfl | with_reducible assumption | ((with_reducible refine decide_eq_false ?_); first | with_reducible assumption | omega)) ?_)
       | (refine c_true rfl (by first | (simp only [Bool.not_eq_true', decide_eq_false_iff_not]; omega) | (with_reducible assumption) | (rw [decide_eq_false] <;> (first | omega | with_reducible rfl)) | (rw [decide_eq_true] <;> (first | omega | with_reducible rfl)) | (simp; done) | (simp; omega)) ?_)
       | (refine c_false rfl (by first | (simp only [Bool.not_eq_false', decide_eq_true_eq]; omega) | (with_reducible assumption) | (rw [decide_eq_false] <;> (first | omega | with_reducible rfl)) | (rw [decide_eq_true] <;> (first | omega | with_reducible rfl)) | (simp; done) | (simp; omega)) ?_)
       | refine c_cond rfl (fun hc => ?_) (fun hc => ?_)
       | refine c_condb rfl (fun hc => ?_) (fun hc => ?_)))
       | refine x_then ?_
       | refine x_then_ret ?_
       | refine x_then_exit ?_
       | refine x_block _ ?_
       | refine x_block_ret _ ?_
       | refine x_block_exit _ ?_
       | refine x_block_past (by decide) ?_
       | refine z_tailm ?_)
       | (refine z_isnil ?_; first
       | refine z_list ?_
       | refine z_mixed ?_
       | refine z_mono0 ?_
       | refine z_mono1 (by decide) fun g => ?_
       | refine z_mono2 (by decide) (by decide) fun g g' => ?_
       | refine z_mixedx ?_
       | refine z_quiet ?_)
       | (refine z_isop ?_; first
       | refine o_indexm tabOk rfl rfl rfl rfl (by omega) (by omega) (by decide) ?_
       | refine o_build0 (t := 102) (v := .agg Pe.zero.cs.toArray) (fun _ => by kernel_rfl) (by decide) ?_
       | refine o_build0 (t := 66) (v := .agg Pe.zero.cs.toArray) (fun _ => by kernel_rfl) (by decide) ?_
       | refine o_alloca (e := 102) (vs := Pe.zero.cs) rfl (by kernel_rfl) (by decide) fun g => ?_
       | refine o_alloca (e := 66) (vs := Pe.zero.cs) rfl (by kernel_rfl) (by decide) fun g => ?_
       | refine o_build (t := 102) rfl build102o (by decide) ?_
       | refine o_build0 (t := 105) (v := .agg (tcs Tb.zero).toArray) (fun _ => by kernel_rfl) (by decide) ?_
       | refine o_build0 (t := 69) (v := .agg (tcs Tb.zero).toArray) (fun _ => by kernel_rfl) (by decide) ?_
       | refine o_boxa rfl rfl (by decide) fun g => ?_
       | (refine z_isbin ?_; first
       | (refine z_isb .add ?_; first
       | refine o_add rfl rfl (by omega) (by omega) (by decide) ?_
       | refine o_addw rfl rfl (by decide) ?_)
       | (refine z_isb .leq ?_; first
       | refine o_le rfl rfl (by decide) ?_))
       | (refine z_ismakes ?_; first
       | refine o_make1 rfl tabOk zeroOk rfl rfl rfl rfl rfl (by decide) fun g => ?_)
       | (refine z_iscall ?_; first
       | ((refine z_iscallf 54 ?_; refine o_callr rfl Try.func54 rfl rfl rfl (in_c _ _ _ _ (by first | exact cells_rds 0 rfl | exact cells_rds 1 rfl | exact cells_rds 2 rfl)) (by decide) ?_))
       | ((refine z_iscallf 57 ?_; refine o_callr rfl Try.func57 rfl rfl rfl (ralive_c _ _ _ _ (by first | exact cells_rds 0 rfl | exact cells_rds 1 rfl | exact cells_rds 2 rfl)) (by decide) ?_))
       | ((refine z_iscallf 54 ?_; refine o_callr rfl Try.func54 rfl rfl rfl (in_c _ _ _ _ (by repeat (first | exact hrd | apply Rds.cons))) (by decide) ?_)))
       | (refine z_isbi ?_; first
       | refine o_len tabOk rfl rfl (by decide) ?_
       | refine o_min rfl rfl (by decide) ?_
       | refine o_max rfl rfl (by decide) ?_
       | (refine o_append0 rfl tabOk zeroOk rfl rfl rfl rfl rfl rfl (by first | assumption | exact Rds.cons _ (by assumption) | exact Rds.cons _ (Rds.cons _ (by assumption)) | exact own_rds 0 rfl | exact own_rds 1 rfl | exact own_rds 2 rfl) (by first | rfl | (simp; done)) (by first | rfl | (simp; done)) (by omega) (by omega) (by decide) fun A' c' => ?_)
       | (refine o_append rfl tabOk zeroOk rfl rfl rfl rfl rfl rfl (by first | assumption | exact Rds.cons _ (by assumption) | exact Rds.cons _ (Rds.cons _ (by assumption)) | exact own_rds 0 rfl | exact own_rds 1 rfl | exact own_rds 2 rfl) (by first | rfl | (simp; done)) (by first | rfl | (simp; done)) (by omega) (by omega) (by decide) fun A' c' => ?_)
       | (refine z_front rfl 1 rfl ?_; refine o_append rfl tabOk zeroOk rfl rfl rfl rfl rfl rfl (by first | assumption | exact Rds.cons _ (by assumption) | exact Rds.cons _ (Rds.cons _ (by assumption)) | exact own_rds 0 rfl | exact own_rds 1 rfl | exact own_rds 2 rfl) (by first | rfl | (simp; done)) (by first | rfl | (simp; done)) (by omega) (by omega) (by decide) fun A' c' => ?_)
       | (refine z_front rfl 2 rfl ?_; refine o_append rfl tabOk zeroOk rfl rfl rfl rfl rfl rfl (by first | assumption | exact Rds.cons _ (by assumption) | exact Rds.cons _ (Rds.cons _ (by assumption)) | exact own_rds 0 rfl | exact own_rds 1 rfl | exact own_rds 2 rfl) (by first | rfl | (simp; done)) (by first | rfl | (simp; done)) (by omega) (by omega) (by decide) fun A' c' => ?_)
       | (refine z_front rfl 3 rfl ?_; refine o_append rfl tabOk zeroOk rfl rfl rfl rfl rfl rfl (by first | assumption | exact Rds.cons _ (by assumption) | exact Rds.cons _ (Rds.cons _ (by assumption)) | exact own_rds 0 rfl | exact own_rds 1 rfl | exact own_rds 2 rfl) (by first | rfl | (simp; done)) (by first | rfl | (simp; done)) (by omega) (by omega) (by decide) fun A' c' => ?_)
       | (refine z_front rfl 4 rfl ?_; refine o_append rfl tabOk zeroOk rfl rfl rfl rfl rfl rfl (by first | assumption | exact Rds.cons _ (by assumption) | exact Rds.cons _ (Rds.cons _ (by assumption)) | exact own_rds 0 rfl | exact own_rds 1 rfl | exact own_rds 2 rfl) (by first | rfl | (simp; done)) (by first | rfl | (simp; done)) (by omega) (by omega) (by decide) fun A' c' => ?_)
       | (refine z_front rfl 5 rfl ?_; refine o_append rfl tabOk zeroOk rfl rfl rfl rfl rfl rfl (by first | assumption | exact Rds.cons _ (by assumption) | exact Rds.cons _ (Rds.cons _ (by assumption)) | exact own_rds 0 rfl | exact own_rds 1 rfl | exact own_rds 2 rfl) (by first | rfl | (simp; done)) (by first | rfl | (simp; done)) (by omega) (by omega) (by decide) fun A' c' => ?_))
       | refine o_move rfl (by decide) ?_
       | refine o_assign rfl (by decide) ?_
       | refine o_nil rfl (by decide) ?_
       | refine o_extract rfl rfl (by decide) ?_
       | refine o_not rfl (by decide) ?_
       | refine o_field0 tabOk rfl rfl rfl rfl rfl (by decide) ?_
       | refine o_field tabOk rfl rfl rfl rfl rfl (by decide) ?_
       | refine o_conv tabOk rfl rfl rfl (by decide) ?_))
  · obtain rfl : n = 7 := by omega
    repeat' (first
     | (refine s_is ?_; first
     | (refine s_isret ?_; first
     | exact f_r1 rfl (res_t rfl) (A, c) trivial rfl (fun w h => h))
     | (refine s_isw ?_; first
     | refine c_seq ?_
     | refine c_block ?_
     | refine c_region ?_
     | refine c_mixed mixed (by kernel_rfl) ?_
     | refine c_skip ?_
     | refine c_ret ?_
     | refine c_exit ?_
     | (refine s_iscond ?_; first
     | (refine c_true rfl (by first | with_reducible rfl | with_reducible assumption | ((with_reducible refine decide_eq_true ?_); first | with_reducible rfl | with_reducible assumption | omega)) ?_)
     | (refine c_false rfl (by first | with_reducible rfl | with_reducible assumption | ((with_reducible refine decide_eq_false ?_); first | with_reducible assumption | omega)) ?_)
     | (refine c_true rfl (by first | (simp only [Bool.not_eq_true', decide_eq_false_iff_not]; omega) | (with_reducible assumption) | (rw [decide_eq_false] <;> (first | omega | with_reducible rfl)) | (rw [decide_eq_true] <;> (first | omega | with_reducible rfl)) | (simp; done) | (simp; omega)) ?_)
     | (refine c_false rfl (by first | (simp only [Bool.not_eq_false', decide_eq_true_eq]; omega) | (with_reducible assumption) | (rw [decide_eq_false] <;> (first | omega | with_reducible rfl)) | (rw [decide_eq_true] <;> (first | omega | with_reducible rfl)) | (simp; done) | (simp; omega)) ?_)
     | refine c_cond rfl (fun hc => ?_) (fun hc => ?_)
     | refine c_condb rfl (fun hc => ?_) (fun hc => ?_)))
     | refine x_then ?_
     | refine x_then_ret ?_
     | refine x_then_exit ?_
     | refine x_block _ ?_
     | refine x_block_ret _ ?_
     | refine x_block_exit _ ?_
     | refine x_block_past (by decide) ?_
     | refine z_tailm ?_)
     | (refine z_isnil ?_; first
     | refine z_list ?_
     | refine z_mixed ?_
     | refine z_mono0 ?_
     | refine z_mono1 (by decide) fun g => ?_
     | refine z_mono2 (by decide) (by decide) fun g g' => ?_
     | refine z_mixedx ?_
     | refine z_quiet ?_)
     | (refine z_isop ?_; first
     | refine o_indexm tabOk rfl rfl rfl rfl (by omega) (by omega) (by decide) ?_
     | refine o_build0 (t := 102) (v := .agg Pe.zero.cs.toArray) (fun _ => by kernel_rfl) (by decide) ?_
     | refine o_build0 (t := 66) (v := .agg Pe.zero.cs.toArray) (fun _ => by kernel_rfl) (by decide) ?_
     | refine o_alloca (e := 102) (vs := Pe.zero.cs) rfl (by kernel_rfl) (by decide) fun g => ?_
     | refine o_alloca (e := 66) (vs := Pe.zero.cs) rfl (by kernel_rfl) (by decide) fun g => ?_
     | refine o_build (t := 102) rfl build102o (by decide) ?_
     | refine o_build0 (t := 105) (v := .agg (tcs Tb.zero).toArray) (fun _ => by kernel_rfl) (by decide) ?_
     | refine o_build0 (t := 69) (v := .agg (tcs Tb.zero).toArray) (fun _ => by kernel_rfl) (by decide) ?_
     | refine o_boxa rfl rfl (by decide) fun g => ?_
     | (refine z_isbin ?_; first
     | (refine z_isb .add ?_; first
     | refine o_add rfl rfl (by omega) (by omega) (by decide) ?_
     | refine o_addw rfl rfl (by decide) ?_)
     | (refine z_isb .leq ?_; first
     | refine o_le rfl rfl (by decide) ?_))
     | (refine z_ismakes ?_; first
     | refine o_make1 rfl tabOk zeroOk rfl rfl rfl rfl rfl (by decide) fun g => ?_)
     | (refine z_iscall ?_; first
     | ((refine z_iscallf 54 ?_; refine o_callr rfl Try.func54 rfl rfl rfl (in_c _ _ _ _ (by first | exact cells_rds 0 rfl | exact cells_rds 1 rfl | exact cells_rds 2 rfl)) (by decide) ?_))
     | ((refine z_iscallf 57 ?_; refine o_callr rfl Try.func57 rfl rfl rfl (ralive_c _ _ _ _ (by first | exact cells_rds 0 rfl | exact cells_rds 1 rfl | exact cells_rds 2 rfl)) (by decide) ?_))
     | ((refine z_iscallf 54 ?_; refine o_callr rfl Try.func54 rfl rfl rfl (in_c _ _ _ _ (by repeat (first | exact hrd | apply Rds.cons))) (by decide) ?_)))
     | (refine z_isbi ?_; first
     | refine o_len tabOk rfl rfl (by decide) ?_
     | refine o_min rfl rfl (by decide) ?_
     | refine o_max rfl rfl (by decide) ?_
     | (refine o_append0 rfl tabOk zeroOk rfl rfl rfl rfl rfl rfl (by first | assumption | exact Rds.cons _ (by assumption) | exact Rds.cons _ (Rds.cons _ (by assumption)) | exact own_rds 0 rfl | exact own_rds 1 rfl | exact own_rds 2 rfl) (by first | rfl | (simp; done)) (by first | rfl | (simp; done)) (by omega) (by omega) (by decide) fun A' c' => ?_)
     | (refine o_append rfl tabOk zeroOk rfl rfl rfl rfl rfl rfl (by first | assumption | exact Rds.cons _ (by assumption) | exact Rds.cons _ (Rds.cons _ (by assumption)) | exact own_rds 0 rfl | exact own_rds 1 rfl | exact own_rds 2 rfl) (by first | rfl | (simp; done)) (by first | rfl | (simp; done)) (by omega) (by omega) (by decide) fun A' c' => ?_)
     | (refine z_front rfl 1 rfl ?_; refine o_append rfl tabOk zeroOk rfl rfl rfl rfl rfl rfl (by first | assumption | exact Rds.cons _ (by assumption) | exact Rds.cons _ (Rds.cons _ (by assumption)) | exact own_rds 0 rfl | exact own_rds 1 rfl | exact own_rds 2 rfl) (by first | rfl | (simp; done)) (by first | rfl | (simp; done)) (by omega) (by omega) (by decide) fun A' c' => ?_)
     | (refine z_front rfl 2 rfl ?_; refine o_append rfl tabOk zeroOk rfl rfl rfl rfl rfl rfl (by first | assumption | exact Rds.cons _ (by assumption) | exact Rds.cons _ (Rds.cons _ (by assumption)) | exact own_rds 0 rfl | exact own_rds 1 rfl | exact own_rds 2 rfl) (by first | rfl | (simp; done)) (by first | rfl | (simp; done)) (by omega) (by omega) (by decide) fun A' c' => ?_)
     | (refine z_front rfl 3 rfl ?_; refine o_append rfl tabOk zeroOk rfl rfl rfl rfl rfl rfl (by first | assumption | exact Rds.cons _ (by assumption) | exact Rds.cons _ (Rds.cons _ (by assumption)) | exact own_rds 0 rfl | exact own_rds 1 rfl | exact own_rds 2 rfl) (by first | rfl | (simp; done)) (by first | rfl | (simp; done)) (by omega) (by omega) (by decide) fun A' c' => ?_)
     | (refine z_front rfl 4 rfl ?_; refine o_append rfl tabOk zeroOk rfl rfl rfl rfl rfl rfl (by first | assumption | exact Rds.cons _ (by assumption) | exact Rds.cons _ (Rds.cons _ (by assumption)) | exact own_rds 0 rfl | exact own_rds 1 rfl | exact own_rds 2 rfl) (by first | rfl | (simp; done)) (by first | rfl | (simp; done)) (by omega) (by omega) (by decide) fun A' c' => ?_)
     | (refine z_front rfl 5 rfl ?_; refine o_append rfl tabOk zeroOk rfl rfl rfl rfl rfl rfl (by first | assumption | exact Rds.cons _ (by assumption) | exact Rds.cons _ (Rds.cons _ (by assumption)) | exact own_rds 0 rfl | exact own_rds 1 rfl | exact own_rds 2 rfl) (by first | rfl | (simp; done)) (by first | rfl | (simp; done)) (by omega) (by omega) (by decide) fun A' c' => ?_))
     | refine o_move rfl (by decide) ?_
     | refine o_assign rfl (by decide) ?_
     | refine o_nil rfl (by decide) ?_
     | refine o_extract rfl rfl (by decide) ?_
     | refine o_not rfl (by decide) ?_
     | refine o_field0 tabOk rfl rfl rfl rfl rfl (by decide) ?_
     | refine o_field tabOk rfl rfl rfl rfl rfl (by decide) ?_
     | refine o_conv tabOk rfl rfl rfl (by decide) ?_))
end Go.Proofs.Ytmfnjmmdchlkiaa
