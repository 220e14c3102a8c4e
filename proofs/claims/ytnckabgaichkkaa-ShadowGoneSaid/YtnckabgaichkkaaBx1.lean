/-
Bind: the document's table: its cells; what is asked of it.
-/
import Derived.Test.YtnckabgaichkkaaBi3
namespace Go.Proofs.Ytnckabgaichkkaa
set_option linter.unusedVariables false
set_option linter.unusedSimpArgs false
open Eng
/-- The cells of one place. -/
def bcv (M : Mp) (s p : Int) : List Value := [.bool (onM M s p), .int .i64 (fM M s p), .bool (wM M s p)]
def bcs (M : Mp) (k : Nat) : List Value := bcv M ((k / 32 : Nat) : Int) ((k % 32 : Nat) : Int)
theorem bcs_len (M : Mp) (k : Nat) : (bcs M k).length = 3 := rfl
theorem bcv_len (M : Mp) (s p : Int) : (bcv M s p).length = 3 := rfl
def xs (M : Mp) : List Value := (List.range 2048).flatMap (bcs M)
theorem xs_len (M : Mp) : (xs M).length = 6144 := by
  unfold xs
  rw [flat_len (bcs M) 3 (bcs_len M), List.length_range]
theorem xs_get (M : Mp) {k j : Nat} (h : k < 2048) (hj : j < 3) : (xs M)[k * 3 + j]? = (bcs M k)[j]? := flat_get (bcs M) 3 (bcs_len M) _ k j k (by simp [h]) hj
theorem bcs_sp (M : Mp) {s p : Nat} (hp : p < 32) : bcs M (s * 32 + p) = bcv M s p := by
  unfold bcs
  rw [show (s * 32 + p) / 32 = s by omega, show (s * 32 + p) % 32 = p by omega]
theorem xs_el (M : Mp) {s p : Nat} (hs : s < 64) (hp : p < 32) : ∀ (j : Nat) u, (bcv M s p)[j]? = some u → (xs M)[s * 96 + p * 3 + j]? = some u := fun j u hu => by
  have hj : j < 3 := (List.getElem?_eq_some_iff.1 hu).1
  rw [show s * 96 + p * 3 + j = (s * 32 + p) * 3 + j by omega, xs_get M (by omega) hj, bcs_sp M hp, hu]
theorem xs_ext {L : List Value} {M : Mp} (hl : L.length = 6144) (h : ∀ k j, k < 2048 → j < 3 → L[k * 3 + j]? = (bcs M k)[j]?) : L = xs M := by
  refine List.ext_getElem? fun q => ?_
  by_cases hq : q < 6144
  · have h3 := h (q / 3) (q % 3) (by omega) (by omega)
    have h4 := xs_get M (k := q / 3) (j := q % 3) (by omega) (by omega)
    rw [show q / 3 * 3 + q % 3 = q by omega] at h3 h4
    rw [h3, h4]
  · rw [List.getElem?_eq_none (by omega), List.getElem?_eq_none (by rw [xs_len]; omega)]
theorem xs_put {M M' : Mp} {s p : Nat} (hs : s < 64) (hp : p < 32) (h : ∀ a c : Int, ¬ (a = s ∧ c = p) → M' a c = M a c) : (xs M).take (s * 96 + p * 3) ++ bcv M' s p ++ (xs M).drop (s * 96 + p * 3 + 3) = xs M' := by
  refine xs_ext (by simp [xs_len, bcv_len]; omega) fun k j hk hj => ?_
  by_cases h1 : k < s * 32 + p ∨ s * 32 + p < k
  · have he : bcs M k = bcs M' k := by
      have hne := h ((k / 32 : Nat) : Int) ((k % 32 : Nat) : Int) (by omega)
      unfold bcs bcv onM fM wM
      rw [hne]
    rw [← he, ← xs_get M hk hj]
    rcases h1 with h1 | h1
    · rw [List.append_assoc, List.getElem?_append_left (by simp [xs_len]; omega), List.getElem?_take_of_lt (by omega)]
    · rw [List.getElem?_append_right (by simp [xs_len, bcv_len]; omega), List.getElem?_drop, List.length_append, List.length_take, xs_len, bcv_len, Nat.min_eq_left (by omega), show s * 96 + p * 3 + 3 + (k * 3 + j - (s * 96 + p * 3 + 3)) = k * 3 + j by omega]
  · obtain rfl : k = s * 32 + p := by omega
    rw [bcs_sp M' hp, List.getElem?_append_left (by simp [xs_len, bcv_len]; omega), List.getElem?_append_right (by simp [xs_len]; omega), List.length_take, xs_len, Nat.min_eq_left (by omega), show (s * 32 + p) * 3 + j - (s * 96 + p * 3) = j by omega]
theorem xs_up (M : Mp) {s p : Nat} (hs : s < 64) (hp : p < 32) (f : Int) (x : Bool) : (xs M).take (s * 96 + p * 3) ++ [.bool true, .int .i64 f, .bool x] ++ (xs M).drop (s * 96 + p * 3 + 3) = xs (upM M s p (f, x)) := by
  have h := xs_put (M := M) (M' := upM M s p (f, x)) hs hp fun a c h => by unfold upM; rw [if_neg h]
  unfold bcv onM fM wM at h
  rw [upM_same] at h
  exact h
theorem delM_same (M : Mp) (s p : Int) : delM M s p s p = none := by unfold delM; rw [if_pos ⟨rfl, rfl⟩]
theorem xs_del (M : Mp) {s p : Nat} (hs : s < 64) (hp : p < 32) : (xs M).take (s * 96 + p * 3) ++ [.bool false, .int .i64 0, .bool false] ++ (xs M).drop (s * 96 + p * 3 + 3) = xs (delM M s p) := by
  have h := xs_put (M := M) (M' := delM M s p) hs hp fun a c h => by unfold delM; rw [if_neg h]
  unfold bcv onM fM wM at h
  rw [delM_same] at h
  exact h
theorem xs_no : xs noM = (List.range 2048).flatMap fun _ => [.bool false, .int .i64 0, .bool false] := rfl
theorem xs_one (M : Mp) : (xs M).all (·.oneCell') = true := by
  rw [List.all_eq_true]
  intro v hv
  unfold xs at hv
  obtain ⟨k, _, hk⟩ := List.mem_flatMap.1 hv
  exact List.all_eq_true.1 (show (bcs M k).all (·.oneCell') = true from rfl) v hk
theorem onM_out {M : Mp} (hM : WM M) {s p : Int} (h : ¬ InP s p) : M s p = none := Classical.byContradiction fun e => h (hM s p e)
attribute [local irreducible] Eng.Hold Eng.Z Eng.S Eng.cells Eng.old Eng.own Eng.mpc Eng.rgc Eng.onM Eng.fM Eng.wM Eng.upM Eng.delM
attribute [local irreducible] xs
theorem xmay_y (s p : Int) (h : InP s p) : Pf Try.prog 43 [.int .i64 s, .int .i64 p] (.bool true) := by
  intro w hw
  obtain ⟨h0, h1, h2, h3⟩ := h
  refine f_enter Try.func43 rfl Try.ntmps43 rfl hw ?_
  repeat' (first
   | (refine s_is ?_; first
   | (refine s_isret ?_; first
   | exact p_r1 rfl (res_t (congrArg some (congrArg Value.bool (decide_eq_true h3)))))
   | (refine s_isw ?_; first
   | refine c_seq ?_
   | refine c_region ?_
   | refine c_ret ?_))
   | (refine z_isg1 ?_; first
   | (refine z_want1 rfl rfl (by first | with_reducible rfl | with_reducible assumption | ((with_reducible refine decide_eq_true ?_); first | with_reducible rfl | with_reducible assumption | omega)) ?_))
   | (refine z_isnil ?_; first
   | refine z_list ?_)
   | (refine z_isop ?_; first
   | (refine z_isbin ?_; first
   | (refine z_isb .lss ?_; first
   | refine o_lt rfl rfl (by decide) ?_)
   | (refine z_isb .geq ?_; first
   | refine o_ge rfl rfl (by decide) ?_))
   | (refine z_ispick ?_; first
   | (refine o_pick1 rfl (by first | with_reducible rfl | with_reducible assumption | ((with_reducible refine decide_eq_true ?_); first | with_reducible rfl | with_reducible assumption | omega)) rfl (by decide) ?_))
   | refine o_move rfl (by decide) ?_
   | refine o_assign rfl (by decide) ?_))
theorem xmay_n (s p : Int) (h : ¬ InP s p) : Pf Try.prog 43 [.int .i64 s, .int .i64 p] (.bool false) := by
  intro w hw
  refine f_enter Try.func43 rfl Try.ntmps43 rfl hw ?_
  by_cases h0 : 0 ≤ s
  · by_cases h1 : s < 64
    · by_cases h2 : 0 ≤ p
      · have h3 : ¬ p < 32 := fun e => h ⟨h0, h1, h2, e⟩
        repeat' (first
         | (refine s_is ?_; first
         | (refine s_isret ?_; first
         | exact p_r1 rfl (res_t (congrArg some (congrArg Value.bool (decide_eq_false h3)))))
         | (refine s_isw ?_; first
         | refine c_seq ?_
         | refine c_region ?_
         | refine c_ret ?_))
         | (refine z_isg1 ?_; first
         | (refine z_want1 rfl rfl (by first | with_reducible rfl | with_reducible assumption | ((with_reducible refine decide_eq_true ?_); first | with_reducible rfl | with_reducible assumption | omega)) ?_))
         | (refine z_isnil ?_; first
         | refine z_list ?_)
         | (refine z_isop ?_; first
         | (refine z_isbin ?_; first
         | (refine z_isb .lss ?_; first
         | refine o_lt rfl rfl (by decide) ?_)
         | (refine z_isb .geq ?_; first
         | refine o_ge rfl rfl (by decide) ?_))
         | (refine z_ispick ?_; first
         | (refine o_pick1 rfl (by first | with_reducible rfl | with_reducible assumption | ((with_reducible refine decide_eq_true ?_); first | with_reducible rfl | with_reducible assumption | omega)) rfl (by decide) ?_))
         | refine o_move rfl (by decide) ?_
         | refine o_assign rfl (by decide) ?_))
      · skip
        repeat' (first
         | (refine s_is ?_; first
         | (refine s_isret ?_; first
         | exact p_r1 rfl (res_t rfl))
         | (refine s_isw ?_; first
         | refine c_seq ?_
         | refine c_region ?_
         | refine c_ret ?_))
         | (refine z_isg1 ?_; first
         | (refine z_want1 rfl rfl (by first | with_reducible rfl | with_reducible assumption | ((with_reducible refine decide_eq_true ?_); first | with_reducible rfl | with_reducible assumption | omega)) ?_)
         | (refine z_skip1 (by decide) rfl rfl (by first | with_reducible rfl | with_reducible assumption | ((with_reducible refine decide_eq_false ?_); first | with_reducible assumption | omega)) ?_))
         | (refine z_isnil ?_; first
         | refine z_list ?_)
         | (refine z_isop ?_; first
         | (refine z_isbin ?_; first
         | (refine z_isb .lss ?_; first
         | refine o_lt rfl rfl (by decide) ?_)
         | (refine z_isb .geq ?_; first
         | refine o_ge rfl rfl (by decide) ?_))
         | (refine z_ispick ?_; first
         | (refine o_pick1 rfl (by first | with_reducible rfl | with_reducible assumption | ((with_reducible refine decide_eq_true ?_); first | with_reducible rfl | with_reducible assumption | omega)) rfl (by decide) ?_)
         | (refine o_pick0 rfl (by first | with_reducible rfl | with_reducible assumption | ((with_reducible refine decide_eq_false ?_); first | with_reducible assumption | omega)) rfl (by decide) ?_))
         | refine o_move rfl (by decide) ?_
         | refine o_assign rfl (by decide) ?_))
    · skip
      repeat' (first
       | (refine s_is ?_; first
       | (refine s_isret ?_; first
       | exact p_r1 rfl (res_t rfl))
       | (refine s_isw ?_; first
       | refine c_seq ?_
       | refine c_region ?_
       | refine c_ret ?_))
       | (refine z_isg1 ?_; first
       | (refine z_want1 rfl rfl (by first | with_reducible rfl | with_reducible assumption | ((with_reducible refine decide_eq_true ?_); first | with_reducible rfl | with_reducible assumption | omega)) ?_)
       | (refine z_skip1 (by decide) rfl rfl (by first | with_reducible rfl | with_reducible assumption | ((with_reducible refine decide_eq_false ?_); first | with_reducible assumption | omega)) ?_))
       | (refine z_isnil ?_; first
       | refine z_list ?_)
       | (refine z_isop ?_; first
       | (refine z_isbin ?_; first
       | (refine z_isb .lss ?_; first
       | refine o_lt rfl rfl (by decide) ?_)
       | (refine z_isb .geq ?_; first
       | refine o_ge rfl rfl (by decide) ?_))
       | (refine z_ispick ?_; first
       | (refine o_pick1 rfl (by first | with_reducible rfl | with_reducible assumption | ((with_reducible refine decide_eq_true ?_); first | with_reducible rfl | with_reducible assumption | omega)) rfl (by decide) ?_)
       | (refine o_pick0 rfl (by first | with_reducible rfl | with_reducible assumption | ((with_reducible refine decide_eq_false ?_); first | with_reducible assumption | omega)) rfl (by decide) ?_))
       | refine o_move rfl (by decide) ?_
       | refine o_assign rfl (by decide) ?_))
  · skip
    repeat' (first
     | (refine s_is ?_; first
     | (refine s_isret ?_; first
     | exact p_r1 rfl (res_t rfl))
     | (refine s_isw ?_; first
     | refine c_seq ?_
     | refine c_region ?_
     | refine c_ret ?_))
     | (refine z_isg1 ?_; first
     | (refine z_skip1 (by decide) rfl rfl (by first | with_reducible rfl | with_reducible assumption | ((with_reducible refine decide_eq_false ?_); first | with_reducible assumption | omega)) ?_))
     | (refine z_isnil ?_; first
     | refine z_list ?_)
     | (refine z_isop ?_; first
     | (refine z_isbin ?_; first
     | (refine z_isb .geq ?_; first
     | refine o_ge rfl rfl (by decide) ?_))
     | (refine z_ispick ?_; first
     | (refine o_pick0 rfl (by first | with_reducible rfl | with_reducible assumption | ((with_reducible refine decide_eq_false ?_); first | with_reducible assumption | omega)) rfl (by decide) ?_))
     | refine o_move rfl (by decide) ?_
     | refine o_assign rfl (by decide) ?_))
theorem xget_c (t : Nat) (M : Mp) (hM : WM M) (s p : Int) (fr : List Chunk) (hrd : Rds fr (some ⟨t, 0, none⟩) (xs M)) : Does Try.prog 13 [.pointer (some ⟨t, 0, none⟩), .int .i64 s, .int .i64 p] fr (fun _ : Unit => True) (fun _ => .agg #[.bool (onM M s p), .int .i64 (fM M s p), .bool (wM M s p)]) (fun _ => fr) := by
  intro w hw
  refine f_enter Try.func13 rfl Try.ntmps13 rfl hw ?_
  by_cases hi : InP s p
  · obtain ⟨a, rfl⟩ : ∃ n : Nat, s = n := ⟨s.toNat, by have := hi.1; omega⟩
    obtain ⟨c, rfl⟩ : ∃ n : Nat, p = n := ⟨p.toNat, by have := hi.2.2.1; omega⟩
    have ha : a < 64 := by have := hi.2.1; omega
    have hc : c < 32 := by have := hi.2.2.2; omega
    repeat' (first
     | ((refine z_isdst 9 ?_; refine o_fn rfl Try.func43 rfl rfl rfl (xmay_y _ _ hi) (by decide) ?_))
     | ((refine z_isdst 19 ?_; refine o_loadrw tabOk (Rds.cons _ hrd) rfl rfl rfl (es := bcv M a c) rfl (Nat.succ_pos _) (xs_el M ha hc) (by decide) ?_))
     | ((refine z_isdst 6 ?_; refine o_alloca (e := 27) (vs := [.bool false, .int .i64 0, .bool false]) rfl (by kernel_rfl) (by decide) fun g6 => ?_))
     | (refine s_is ?_; first
     | (refine s_isret ?_; first
     | exact f_r1 rfl (res_c tabOk rfl rfl rfl 0 rfl rfl) () trivial rfl (fun w h => ((h.sel 1 [0] (by decide)).mask [false])))
     | (refine s_isw ?_; first
     | refine c_seq ?_
     | refine c_region ?_
     | refine c_skip ?_
     | refine c_ret ?_
     | (refine s_iscond ?_; first
     | (refine c_false rfl (by first | (simp only [Bool.not_eq_false', decide_eq_true_eq]; omega) | (with_reducible assumption) | (rw [decide_eq_false] <;> (first | omega | with_reducible rfl)) | (rw [decide_eq_true] <;> (first | omega | with_reducible rfl)) | (simp; done) | (simp; omega)) ?_))))
     | (refine z_isnil ?_; first
     | refine z_list ?_)
     | (refine z_isop ?_; first
     | refine o_indexm tabOk rfl rfl rfl rfl (by omega) (by omega) (by decide) ?_
     | refine o_indexn tabOk rfl rfl rfl rfl (by omega) (by omega) (by decide) ?_
     | (refine z_isstore ?_; first
     | (refine z_stw rfl ?_; first
     | ((refine z_sti 0 rfl rfl ?_; refine o_storeb0 rfl tabOk rfl rfl rfl (by first | rfl | rfl) (by first | rfl | rfl) (by first | rfl | rfl) ?_))))
     | refine o_move rfl (by decide) ?_
     | refine o_nil rfl (by decide) ?_
     | refine o_not rfl (by decide) ?_
     | refine o_field0 tabOk rfl rfl rfl rfl rfl (by decide) ?_))
  · have hn := onM_out hM hi
    have h1 : onM M s p = false := by unfold onM; rw [hn]; rfl
    have h2 : fM M s p = 0 := by unfold fM; rw [hn]
    have h3 : wM M s p = false := by unfold wM; rw [hn]
    rw [h1, h2, h3]
    repeat' (first
     | ((refine z_isdst 9 ?_; refine o_fn rfl Try.func43 rfl rfl rfl (xmay_n _ _ hi) (by decide) ?_))
     | ((refine z_isdst 6 ?_; refine o_alloca (e := 27) (vs := [.bool false, .int .i64 0, .bool false]) rfl (by kernel_rfl) (by decide) fun g6 => ?_))
     | ((refine z_isdst 11 ?_; refine o_build0 (t := 27) (v := .agg #[.bool false, .int .i64 0, .bool false]) (fun _ => by kernel_rfl) (by decide) ?_))
     | (refine s_is ?_; first
     | (refine s_isret ?_; first
     | exact f_r1 rfl (res_c tabOk rfl rfl rfl 0 rfl rfl) () trivial rfl (fun w h => ((h.sel 1 [0] (by decide)).mask [false])))
     | (refine s_isw ?_; first
     | refine c_seq ?_
     | refine c_region ?_
     | refine c_ret ?_
     | (refine s_iscond ?_; first
     | (refine c_true rfl (by first | (simp only [Bool.not_eq_true', decide_eq_false_iff_not]; omega) | (with_reducible assumption) | (rw [decide_eq_false] <;> (first | omega | with_reducible rfl)) | (rw [decide_eq_true] <;> (first | omega | with_reducible rfl)) | (simp; done) | (simp; omega)) ?_)))
     | refine x_then_ret ?_)
     | (refine z_isnil ?_; first
     | refine z_list ?_)
     | (refine z_isop ?_; first
     | (refine z_isstore ?_; first
     | (refine z_stw rfl ?_; first
     | ((refine z_sti 0 rfl rfl ?_; refine o_storeb0 rfl tabOk rfl rfl rfl (by first | rfl | rfl) (by first | rfl | rfl) (by first | rfl | rfl) ?_))))
     | refine o_move rfl (by decide) ?_
     | refine o_not rfl (by decide) ?_))
theorem xput_y (t : Nat) (M : Mp) (s p f : Int) (x : Bool) (h : InP s p) (hf : 0 ≤ f ∧ f < 512) (fr : List Chunk) : Does Try.prog 41 [.pointer (some ⟨t, 0, none⟩), .int .i64 s, .int .i64 p, .int .i64 f, .bool x] (cells t 31 (xs M) :: fr) (fun _ : Unit => True) (fun _ => .bool true) (fun _ => cells t 31 (xs (upM M s p (f, x))) :: fr) := by
  intro w hw
  refine f_enter Try.func41 rfl Try.ntmps41 rfl hw ?_
  obtain ⟨a, rfl⟩ : ∃ n : Nat, s = n := ⟨s.toNat, by have := h.1; omega⟩
  obtain ⟨c, rfl⟩ : ∃ n : Nat, p = n := ⟨p.toNat, by have := h.2.2.1; omega⟩
  have ha : a < 64 := by have := h.2.1; omega
  have hc : c < 32 := by have := h.2.2.2; omega
  repeat' (first
   | ((refine z_isdst 13 ?_; refine o_fn rfl Try.func43 rfl rfl rfl (xmay_y _ _ h) (by decide) ?_))
   | ((refine z_isdst 28 ?_; refine o_buildf (t := 27) (zs := [.bool false, .int .i64 0, .bool false]) (vs := [.bool true, .int .i64 f, .bool x]) tabOk rfl rfl (by kernel_rfl) rfl ⟨_, _, rfl, rfl, Nat.le_of_ble_eq_true rfl, _, _, rfl, rfl, Nat.le_of_ble_eq_true rfl, _, _, rfl, rfl, Nat.le_of_ble_eq_true rfl, rfl⟩ (by decide) ?_))
   | (refine s_is ?_; first
   | (refine s_isret ?_; first
   | exact f_r1 rfl (res_t rfl) () trivial rfl (fun w h => h))
   | (refine s_isw ?_; first
   | refine c_seq ?_
   | refine c_region ?_
   | refine c_skip ?_
   | refine c_ret ?_
   | (refine s_iscond ?_; first
   | (refine c_false rfl (by first | with_reducible rfl | with_reducible assumption | ((with_reducible refine decide_eq_false ?_); first | with_reducible assumption | omega)) ?_))))
   | (refine z_isg0 ?_; first
   | (refine z_want0 rfl rfl (by first | with_reducible rfl | with_reducible assumption | ((with_reducible refine decide_eq_false ?_); first | with_reducible assumption | omega)) ?_)
   | (refine z_want0 rfl rfl (by first | (simp only [Bool.not_eq_false', decide_eq_true_eq]; omega) | (with_reducible assumption) | (rw [decide_eq_false] <;> (first | omega | with_reducible rfl)) | (rw [decide_eq_true] <;> (first | omega | with_reducible rfl)) | (simp; done) | (simp; omega)) ?_))
   | (refine z_isnil ?_; first
   | refine z_list ?_)
   | (refine z_isop ?_; first
   | refine o_indexm tabOk rfl rfl rfl rfl (by omega) (by omega) (by decide) ?_
   | refine o_indexn tabOk rfl rfl rfl rfl (by omega) (by omega) (by decide) ?_
   | (refine z_isbin ?_; first
   | (refine z_isb .lss ?_; first
   | refine o_lt rfl rfl (by decide) ?_)
   | (refine z_isb .gtr ?_; first
   | refine o_gt rfl rfl (by decide) ?_))
   | (refine z_isstore ?_; first
   | (refine o_storew_at rfl 0 tabOk rfl rfl rfl rfl (vs := [.bool true, .int .i64 f, .bool x]) rfl rfl (by rw [xs_len]; show a * 96 + c * 3 + 3 ≤ 6144; omega) (xs_up M ha hc f x) ?_))
   | (refine z_ispick ?_; first
   | (refine o_pick0 rfl (by first | with_reducible rfl | with_reducible assumption | ((with_reducible refine decide_eq_false ?_); first | with_reducible assumption | omega)) rfl (by decide) ?_)
   | (refine o_pick0 rfl (by first | (simp only [Bool.not_eq_false', decide_eq_true_eq]; omega) | (with_reducible assumption) | (rw [decide_eq_false] <;> (first | omega | with_reducible rfl)) | (rw [decide_eq_true] <;> (first | omega | with_reducible rfl)) | (simp; done) | (simp; omega)) rfl (by decide) ?_))
   | refine o_move rfl (by decide) ?_
   | refine o_assign rfl (by decide) ?_
   | refine o_nil rfl (by decide) ?_
   | refine o_not rfl (by decide) ?_
   | refine o_field0 tabOk rfl rfl rfl rfl rfl (by decide) ?_))
theorem xput_n (t : Nat) (M : Mp) (s p f : Int) (x : Bool) (h : ¬ (InP s p ∧ 0 ≤ f ∧ f < 512)) : Pf Try.prog 41 [.pointer (some ⟨t, 0, none⟩), .int .i64 s, .int .i64 p, .int .i64 f, .bool x] (.bool false) := by
  intro w hw
  refine f_enter Try.func41 rfl Try.ntmps41 rfl hw ?_
  by_cases hi : InP s p
  · by_cases h0 : 0 ≤ f
    · have h1 : ¬ f < 512 := fun e => h ⟨hi, h0, e⟩
      repeat' (first
       | ((refine z_isdst 13 ?_; refine o_fn rfl Try.func43 rfl rfl rfl (xmay_y _ _ hi) (by decide) ?_))
       | (refine s_is ?_; first
       | (refine s_isret ?_; first
       | exact p_r1 rfl (res_t rfl))
       | (refine s_isw ?_; first
       | refine c_seq ?_
       | refine c_region ?_
       | refine c_ret ?_
       | (refine s_iscond ?_; first
       | (refine c_true rfl (by first | with_reducible rfl | with_reducible assumption | ((with_reducible refine decide_eq_true ?_); first | with_reducible rfl | with_reducible assumption | omega)) ?_)))
       | refine x_then_ret ?_)
       | (refine z_isg0 ?_; first
       | (refine z_want0 rfl rfl (by first | with_reducible rfl | with_reducible assumption | ((with_reducible refine decide_eq_false ?_); first | with_reducible assumption | omega)) ?_)
       | (refine z_want0 rfl rfl (by first | (simp only [Bool.not_eq_false', decide_eq_true_eq]; omega) | (with_reducible assumption) | (rw [decide_eq_false] <;> (first | omega | with_reducible rfl)) | (rw [decide_eq_true] <;> (first | omega | with_reducible rfl)) | (simp; done) | (simp; omega)) ?_))
       | (refine z_isnil ?_; first
       | refine z_list ?_)
       | (refine z_isop ?_; first
       | (refine z_isbin ?_; first
       | (refine z_isb .lss ?_; first
       | refine o_lt rfl rfl (by decide) ?_)
       | (refine z_isb .gtr ?_; first
       | refine o_gt rfl rfl (by decide) ?_))
       | (refine z_ispick ?_; first
       | (refine o_pick0 rfl (by first | with_reducible rfl | with_reducible assumption | ((with_reducible refine decide_eq_false ?_); first | with_reducible assumption | omega)) rfl (by decide) ?_)
       | (refine o_pick0 rfl (by first | (simp only [Bool.not_eq_false', decide_eq_true_eq]; omega) | (with_reducible assumption) | (rw [decide_eq_false] <;> (first | omega | with_reducible rfl)) | (rw [decide_eq_true] <;> (first | omega | with_reducible rfl)) | (simp; done) | (simp; omega)) rfl (by decide) ?_))
       | refine o_move rfl (by decide) ?_
       | refine o_assign rfl (by decide) ?_
       | refine o_not rfl (by decide) ?_))
    · skip
      repeat' (first
       | ((refine z_isdst 13 ?_; refine o_fn rfl Try.func43 rfl rfl rfl (xmay_y _ _ hi) (by decide) ?_))
       | (refine s_is ?_; first
       | (refine s_isret ?_; first
       | exact p_r1 rfl (res_t rfl))
       | (refine s_isw ?_; first
       | refine c_seq ?_
       | refine c_region ?_
       | refine c_ret ?_
       | (refine s_iscond ?_; first
       | (refine c_true rfl (by first | with_reducible rfl | with_reducible assumption | ((with_reducible refine decide_eq_true ?_); first | with_reducible rfl | with_reducible assumption | omega)) ?_)))
       | refine x_then_ret ?_)
       | (refine z_isg0 ?_; first
       | (refine z_skip0 (by decide) rfl rfl (by first | with_reducible rfl | with_reducible assumption | ((with_reducible refine decide_eq_true ?_); first | with_reducible rfl | with_reducible assumption | omega)) ?_)
       | (refine z_want0 rfl rfl (by first | (simp only [Bool.not_eq_false', decide_eq_true_eq]; omega) | (with_reducible assumption) | (rw [decide_eq_false] <;> (first | omega | with_reducible rfl)) | (rw [decide_eq_true] <;> (first | omega | with_reducible rfl)) | (simp; done) | (simp; omega)) ?_))
       | (refine z_isnil ?_; first
       | refine z_list ?_)
       | (refine z_isop ?_; first
       | (refine z_isbin ?_; first
       | (refine z_isb .lss ?_; first
       | refine o_lt rfl rfl (by decide) ?_))
       | (refine z_ispick ?_; first
       | (refine o_pick1 rfl (by first | with_reducible rfl | with_reducible assumption | ((with_reducible refine decide_eq_true ?_); first | with_reducible rfl | with_reducible assumption | omega)) rfl (by decide) ?_)
       | (refine o_pick0 rfl (by first | (simp only [Bool.not_eq_false', decide_eq_true_eq]; omega) | (with_reducible assumption) | (rw [decide_eq_false] <;> (first | omega | with_reducible rfl)) | (rw [decide_eq_true] <;> (first | omega | with_reducible rfl)) | (simp; done) | (simp; omega)) rfl (by decide) ?_))
       | refine o_move rfl (by decide) ?_
       | refine o_assign rfl (by decide) ?_
       | refine o_not rfl (by decide) ?_))
  · skip
    repeat' (first
     | ((refine z_isdst 13 ?_; refine o_fn rfl Try.func43 rfl rfl rfl (xmay_n _ _ hi) (by decide) ?_))
     | (refine s_is ?_; first
     | (refine s_isret ?_; first
     | exact p_r1 rfl (res_t rfl))
     | (refine s_isw ?_; first
     | refine c_seq ?_
     | refine c_region ?_
     | refine c_ret ?_
     | (refine s_iscond ?_; first
     | (refine c_true rfl (by first | with_reducible rfl | with_reducible assumption | ((with_reducible refine decide_eq_true ?_); first | with_reducible rfl | with_reducible assumption | omega)) ?_)))
     | refine x_then_ret ?_)
     | (refine z_isg0 ?_; first
     | (refine z_skip0 (by decide) rfl rfl (by first | with_reducible rfl | with_reducible assumption | ((with_reducible refine decide_eq_true ?_); first | with_reducible rfl | with_reducible assumption | omega)) ?_)
     | (refine z_skip0 (by decide) rfl rfl (by first | (simp only [Bool.not_eq_true', decide_eq_false_iff_not]; omega) | (with_reducible assumption) | (rw [decide_eq_false] <;> (first | omega | with_reducible rfl)) | (rw [decide_eq_true] <;> (first | omega | with_reducible rfl)) | (simp; done) | (simp; omega)) ?_))
     | (refine z_isnil ?_; first
     | refine z_list ?_)
     | (refine z_isop ?_; first
     | (refine z_ispick ?_; first
     | (refine o_pick1 rfl (by first | with_reducible rfl | with_reducible assumption | ((with_reducible refine decide_eq_true ?_); first | with_reducible rfl | with_reducible assumption | omega)) rfl (by decide) ?_)
     | (refine o_pick1 rfl (by first | (simp only [Bool.not_eq_true', decide_eq_false_iff_not]; omega) | (with_reducible assumption) | (rw [decide_eq_false] <;> (first | omega | with_reducible rfl)) | (rw [decide_eq_true] <;> (first | omega | with_reducible rfl)) | (simp; done) | (simp; omega)) rfl (by decide) ?_))
     | refine o_move rfl (by decide) ?_
     | refine o_assign rfl (by decide) ?_
     | refine o_not rfl (by decide) ?_))
end Go.Proofs.Ytnckabgaichkkaa
