/-
An inode put into a half of a block.
-/
import Derived.Test.YtmfnjmmdchlkiaaIn2
namespace Go.Proofs.Ytmfnjmmdchlkiaa
set_option linter.unusedVariables false
set_option linter.unusedSimpArgs false
open Eng
theorem ba_splice {n m o : Nat} (d e : Nat → Int) (h : o + m ≤ n) : (ba n d).take o ++ ba m e ++ (ba n d).drop (o + (ba m e).length) = ba n (fun j => if o ≤ j ∧ j < o + m then e (j - o) else d j) := by
  rw [ba_len]
  refine List.ext_getElem? fun j => ?_
  by_cases hj : j < n
  · rw [ba_at _ hj]
    by_cases h1 : j < o
    · rw [if_neg (by omega), List.append_assoc, List.getElem?_append_left (by simp [ba_len]; omega), List.getElem?_take_of_lt h1, ba_at _ hj]
    · by_cases h2 : j < o + m
      · rw [if_pos ⟨by omega, h2⟩, List.getElem?_append_left (by simp [ba_len]; omega), List.getElem?_append_right (by simp [ba_len]; omega), List.length_take, ba_len, Nat.min_eq_left (by omega), ba_at _ (by omega)]
      · rw [if_neg (by omega), List.getElem?_append_right (by simp [ba_len]; omega), List.getElem?_drop, List.length_append, List.length_take, ba_len, ba_len, Nat.min_eq_left (by omega), show o + m + (j - (o + m)) = j by omega, ba_at _ hj]
  · rw [List.getElem?_eq_none (by simp [ba_len]; omega), List.getElem?_eq_none (by rw [ba_len]; omega)]
/-- The bytes of an inode, as far as m of its first blocks. -/
def encN (x : In) (m : Nat) : Nat → Int := fun j => if j = 0 then lo x.k else if j = 2 then lo x.s else if j = 3 then hi x.s else if 4 ≤ j ∧ j < 4 + 2 * m then (if j % 2 = 0 then lo (x.nr ((j - 4) / 2)) else hi (x.nr ((j - 4) / 2))) else 0
def enc (x : In) : Nat → Int := fun j => if j = 20 then lo x.f else if j = 21 then hi x.f else encN x 8 j
theorem encN_zero (x : In) : upd (upd (upd (fun _ => 0) 0 (lo x.k)) 2 (lo x.s)) 3 (hi x.s) = encN x 0 := by
  funext j
  unfold upd encN
  by_cases h3 : j = 3
  · simp [h3]
  · by_cases h2 : j = 2
    · simp [h2]
    · by_cases h0 : j = 0
      · simp [h0]
      · simp [h0, h2, h3]; omega
theorem encN_succ (x : In) (m : Nat) : upd (upd (encN x m) (4 + 2 * m) (lo (x.nr m))) (4 + 2 * m + 1) (hi (x.nr m)) = encN x (m + 1) := by
  funext j
  unfold upd encN
  by_cases h1 : j = 4 + 2 * m + 1
  · subst h1
    rw [if_pos rfl, if_neg (by omega), if_neg (by omega), if_neg (by omega), if_pos (by omega), if_neg (by omega), show (4 + 2 * m + 1 - 4) / 2 = m by omega]
  · rw [if_neg h1]
    by_cases h2 : j = 4 + 2 * m
    · subst h2
      rw [if_pos rfl, if_neg (by omega), if_neg (by omega), if_neg (by omega), if_pos (by omega), if_pos (by omega), show (4 + 2 * m - 4) / 2 = m by omega]
    · rw [if_neg h2]
      by_cases h3 : 4 ≤ j ∧ j < 4 + 2 * m
      · rw [if_pos h3, if_pos (show 4 ≤ j ∧ j < 4 + 2 * (m + 1) by omega)]
      · rw [if_neg h3, if_neg (show ¬ (4 ≤ j ∧ j < 4 + 2 * (m + 1)) by omega)]
theorem enc_end (x : In) : upd (upd (encN x 8) 20 (lo x.f)) 21 (hi x.f) = enc x := by
  funext j
  unfold upd enc
  by_cases h1 : j = 21
  · subst h1; simp
  · by_cases h2 : j = 20
    · subst h2; simp
    · simp [h1, h2]
def putD (d : Nat → Int) (o : Nat) (x : In) : Nat → Int := fun j => if o ≤ j ∧ j < o + 32 then enc x (j - o) else d j
def okP (h : Int) (x : In) : Bool := decide (0 ≤ h ∧ h ≤ 1) && right x
def put (d : Nat → Int) (h : Int) (x : In) : Nat → Int := if okP h x = true then putD d (h * 32).toNat x else d
theorem copy_set (d : Nat → Int) (x : In) {h : Int} (h0 : 0 ≤ h) (h1 : h ≤ 1) : (ba 64 d).take (0 + (h * 32).toNat) ++ ba 32 (upd (upd (encN x 8) 20 (lo x.f)) 21 (hi x.f)) ++ (ba 64 d).drop (0 + (h * 32).toNat + (ba 32 (upd (upd (encN x 8) 20 (lo x.f)) 21 (hi x.f))).length) = ba 64 (putD d (h * 32).toNat x) := by
  rw [Nat.zero_add, ba_splice _ _ (by omega), enc_end]
  rfl
theorem lo_def (n : Int) : lo n = IntKind.u8.wrap n := rfl
attribute [local irreducible] Eng.Hold Eng.Z Eng.S Eng.cells Eng.old Eng.own ba na In.cs blk lo hi lg numOk upTo inK Eng.eqB right
attribute [local irreducible] encN enc okP
set_option maxHeartbeats 4000000 in
theorem put_yes (d : Nat → Int) (h : Int) (x : In) (h0 : 0 ≤ h) (h1 : h ≤ 1) (hr : right x = true) : Pf Try.prog 16 [.agg (ba 64 d).toArray, .int .i64 h, .agg x.cs.toArray] (.tuple #[.agg (ba 64 (putD d (h * 32).toNat x)).toArray, .bool true]) := by
  intro w hw
  refine f_enter Try.func16 rfl Try.ntmps16 rfl hw ?_
  have e1 : (!right x) = false := by rw [hr]; rfl
  repeat' (first
   | refine z_mono0w ?_
   | (refine s_is ?_; first
   | (refine c_both1 ⟨[30], []⟩ (id := 5) mixed (by kernel_rfl) ?_)
   | (refine c_both1 ⟨[47], []⟩ (id := 11) mixed (by kernel_rfl) ?_)
   | (refine s_isagain ?_; first
   | (exact c_again (i + 1) (by omega) (by omega) ⟨rfl, rfl, rfl, rfl, rfl, rfl, rfl, trivial⟩ (fun w h => by rw [show 0 + (4 + 2 * (i : Int)).toNat = 4 + 2 * i by omega, Int.toNat_natCast] at h; rw [← encN_succ]; exact h)))
   | (refine s_isret ?_; first
   | exact p_r2 rfl (res_c tabOk rfl rfl rfl 1 rfl (ba_len _ _)) (res_t rfl) rfl)
   | (refine s_isw ?_; first
   | (refine s_isloop ?_; first
   | ((rename_i g3 g5 g6; refine c_loop (X := Nat) (fun i => i ≤ 8) (fun i => [(1, .int .i64 h), (3, .pointer (some ⟨g3, 0, none⟩)), (5, .pointer (some ⟨g5, 0, none⟩)), (6, .pointer (some ⟨g6, 0, none⟩)), (8, .pointer (some ⟨g, 0, none⟩)), (32, .agg (na x.nr).toArray), (33, .int .i64 i)]) (fun i => [cells g 37 (ba 32 (encN x i)), cells g6 31 (ba 64 (fun _ => 0)), cells g5 34 x.cs, cells g3 31 (ba 64 d)]) (fun i => 8 - i) 0 (by decide) ⟨rfl, rfl, rfl, rfl, rfl, rfl, rfl, trivial⟩ (fun w h => by rw [← encN_zero, lo_def x.k]; exact h) (fun i hi => ?_))))
   | refine c_seq ?_
   | refine c_block ?_
   | refine c_region ?_
   | refine c_mixed mixed (by kernel_rfl) ?_
   | refine c_skip ?_
   | refine c_ret ?_
   | refine c_exit ?_
   | (refine s_iscond ?_; first
   | (refine c_true rfl (by first | with_reducible rfl | with_reducible assumption | ((with_reducible refine decide_eq_true ?_); first | with_reducible rfl | with_reducible assumption | omega)) ?_)
   | (refine c_false rfl (by first | with_reducible rfl | with_reducible assumption | ((with_reducible refine decide_eq_false ?_); first | with_reducible assumption | omega)) ?_)
   | (refine c_true rfl (by first | (simp only [Bool.not_eq_true', decide_eq_false_iff_not]; omega) | (with_reducible assumption) | (rw [decide_eq_false] <;> (first | omega | with_reducible rfl)) | (rw [decide_eq_true] <;> (first | omega | with_reducible rfl)) | (simp; done) | (simp; omega)) ?_)
   | (refine c_false rfl (by first | (simp only [Bool.not_eq_false', decide_eq_true_eq]; omega) | (with_reducible assumption) | (rw [decide_eq_false] <;> (first | omega | with_reducible rfl)) | (rw [decide_eq_true] <;> (first | omega | with_reducible rfl)) | (simp; done) | (simp; omega)) ?_)
   | refine c_cond rfl (fun hc => ?_) (fun hc => ?_)
   | refine c_condb rfl (fun hc => ?_) (fun hc => ?_)))
   | refine x_then ?_
   | refine x_then_ret ?_
   | refine x_then_exit ?_
   | refine x_block _ ?_
   | refine x_block_ret _ ?_
   | refine x_block_exit _ ?_
   | refine x_block_past (by decide) ?_
   | refine z_tailm ?_)
   | (refine z_isg0 ?_; first
   | refine z_skipu (by decide) rfl rfl ?_
   | (refine z_want0 rfl rfl (by first | with_reducible rfl | with_reducible assumption | ((with_reducible refine decide_eq_false ?_); first | with_reducible assumption | omega)) ?_)
   | (refine z_skip0 (by decide) rfl rfl (by first | with_reducible rfl | with_reducible assumption | ((with_reducible refine decide_eq_true ?_); first | with_reducible rfl | with_reducible assumption | omega)) ?_)
   | (refine z_want0 rfl rfl (by first | (simp only [Bool.not_eq_false', decide_eq_true_eq]; omega) | (with_reducible assumption) | (rw [decide_eq_false] <;> (first | omega | with_reducible rfl)) | (rw [decide_eq_true] <;> (first | omega | with_reducible rfl)) | (simp; done) | (simp; omega)) ?_)
   | (refine z_skip0 (by decide) rfl rfl (by first | (simp only [Bool.not_eq_true', decide_eq_false_iff_not]; omega) | (with_reducible assumption) | (rw [decide_eq_false] <;> (first | omega | with_reducible rfl)) | (rw [decide_eq_true] <;> (first | omega | with_reducible rfl)) | (simp; done) | (simp; omega)) ?_)
   | refine z_guard0 (by decide) rfl rfl (fun hc => ?_) (fun hc => ?_)
   | refine z_guardb (by decide) rfl rfl (fun hc => ?_) (fun hc => ?_))
   | (refine z_isnil ?_; first
   | refine z_list ?_
   | refine z_mixed ?_
   | refine z_mono0 ?_
   | refine z_mono1 (by decide) fun g => ?_
   | refine z_mono2 (by decide) (by decide) fun g g' => ?_
   | refine z_mixedx ?_
   | refine z_quiet ?_)
   | (refine z_isop ?_; first
   | ((refine o_copy rfl 3 tabOk rfl rfl (cells_rds 0 rfl) rfl rfl rfl (by simp only [ba_len]; show 32 = min 32 _; omega) (by simp only [ba_len]; omega) (by first | exact ba_one _ _ | exact in_one _ | exact na_one _ | rfl) (by obtain rfl : i = 8 := (by omega); exact copy_set d x h0 h1) (by decide) ?_))
   | refine o_boxa rfl rfl (by decide) fun g => ?_
   | refine o_build0 (t := 34) (v := .agg In.zero.cs.toArray) (fun _ => by kernel_rfl) (by decide) ?_
   | refine o_build0 (t := 28) (v := .agg In.zero.cs.toArray) (fun _ => by kernel_rfl) (by decide) ?_
   | refine o_alloca (e := 37) (vs := ba 32 (fun _ => 0)) rfl (by kernel_rfl) (by decide) fun g => ?_
   | refine o_alloca (e := 31) (vs := ba 64 (fun _ => 0)) rfl (by kernel_rfl) (by decide) fun g => ?_
   | refine o_alloca (e := 34) (vs := In.zero.cs) rfl (by kernel_rfl) (by decide) fun g => ?_
   | (refine z_isbin ?_; first
   | refine o_eqa cmp34 rfl rfl (in_typed _) (in_typed _) (by decide) ?_
   | refine o_eqa cmp28 rfl rfl (in_typed _) (in_typed _) (by decide) ?_
   | (refine z_isb .add ?_; first
   | refine o_add rfl rfl (by omega) (by omega) (by decide) ?_
   | refine o_addw rfl rfl (by decide) ?_)
   | (refine z_isb .mul ?_; first
   | refine o_mul rfl rfl (by omega) (by omega) (by decide) ?_
   | refine o_mulw rfl rfl (by decide) ?_)
   | (refine z_isb .lss ?_; first
   | refine o_lt rfl rfl (by decide) ?_)
   | (refine z_isb .gtr ?_; first
   | refine o_gt rfl rfl (by decide) ?_))
   | (refine z_isload ?_; first
   | refine o_loadp tabOk rfl rfl rfl 0 rfl (na_len _) (in_near _) (by decide) ?_
   | refine o_loadp tabOk rfl rfl rfl 1 rfl (na_len _) (in_near _) (by decide) ?_
   | refine o_loadp tabOk rfl rfl rfl 2 rfl (na_len _) (in_near _) (by decide) ?_
   | (refine z_ld1 tabOk rfl rfl ?_; first
   | refine o_loadm tabOk rfl rfl rfl (by repeat' (first | exact List.mem_cons_self | apply List.mem_cons_of_mem)) (by first | exact ba_at _ (by omega) | exact in_k _ | exact in_s _ | exact in_n _ (by omega) | exact in_f _ | exact na_at _ (by omega) | rfl) (by decide) ?_
   | refine o_loads tabOk (by first | assumption | exact Rds.cons _ (by assumption) | exact Rds.cons _ (Rds.cons _ (by assumption)) | exact own_rds 0 rfl | exact own_rds 1 rfl | exact own_rds 2 rfl) rfl rfl rfl (by first | exact ba_at _ (by omega) | exact in_k _ | exact in_s _ | exact in_n _ (by omega) | exact in_f _ | exact na_at _ (by omega) | rfl) (by decide) ?_)
   | (refine z_ldw tabOk rfl rfl ?_; first
   | refine o_loadwm tabOk rfl rfl rfl (by repeat' (first | exact List.mem_cons_self | apply List.mem_cons_of_mem)) (by first | exact ba_len _ _ | exact in_len _ | exact na_len _ | (simp only [ba_len, in_len, na_len]) | rfl) (by decide) ?_))
   | (refine z_isstore ?_; first
   | (refine z_stw rfl ?_; first
   | ((refine z_sti 0 rfl rfl ?_; refine o_storeb0 rfl tabOk rfl rfl rfl (by first | exact ba_len _ _ | exact in_len _ | exact na_len _ | (simp only [ba_len, in_len, na_len]) | rfl) (by first | exact ba_one _ _ | exact in_one _ | exact na_one _ | rfl) (by first | exact ba_len _ _ | exact in_len _ | exact na_len _ | (simp only [ba_len, in_len, na_len]) | rfl) ?_))
   | ((refine z_sti 1 rfl rfl ?_; refine o_storeb1 rfl tabOk rfl rfl rfl (by first | exact ba_len _ _ | exact in_len _ | exact na_len _ | (simp only [ba_len, in_len, na_len]) | rfl) (by first | exact ba_one _ _ | exact in_one _ | exact na_one _ | rfl) (by first | exact ba_len _ _ | exact in_len _ | exact na_len _ | (simp only [ba_len, in_len, na_len]) | rfl) ?_))
   | ((refine z_sti 2 rfl rfl ?_; refine o_storeb2 rfl tabOk rfl rfl rfl (by first | exact ba_len _ _ | exact in_len _ | exact na_len _ | (simp only [ba_len, in_len, na_len]) | rfl) (by first | exact ba_one _ _ | exact in_one _ | exact na_one _ | rfl) (by first | exact ba_len _ _ | exact in_len _ | exact na_len _ | (simp only [ba_len, in_len, na_len]) | rfl) ?_))
   | ((refine z_sti 3 rfl rfl ?_; refine o_storeb3 rfl tabOk rfl rfl rfl (by first | exact ba_len _ _ | exact in_len _ | exact na_len _ | (simp only [ba_len, in_len, na_len]) | rfl) (by first | exact ba_one _ _ | exact in_one _ | exact na_one _ | rfl) (by first | exact ba_len _ _ | exact in_len _ | exact na_len _ | (simp only [ba_len, in_len, na_len]) | rfl) ?_))
   | ((refine z_sti 4 rfl rfl ?_; refine o_storeb4 rfl tabOk rfl rfl rfl (by first | exact ba_len _ _ | exact in_len _ | exact na_len _ | (simp only [ba_len, in_len, na_len]) | rfl) (by first | exact ba_one _ _ | exact in_one _ | exact na_one _ | rfl) (by first | exact ba_len _ _ | exact in_len _ | exact na_len _ | (simp only [ba_len, in_len, na_len]) | rfl) ?_))
   | ((refine z_sti 5 rfl rfl ?_; refine o_storeb5 rfl tabOk rfl rfl rfl (by first | exact ba_len _ _ | exact in_len _ | exact na_len _ | (simp only [ba_len, in_len, na_len]) | rfl) (by first | exact ba_one _ _ | exact in_one _ | exact na_one _ | rfl) (by first | exact ba_len _ _ | exact in_len _ | exact na_len _ | (simp only [ba_len, in_len, na_len]) | rfl) ?_))
   | ((refine z_sti 6 rfl rfl ?_; refine o_storeb6 rfl tabOk rfl rfl rfl (by first | exact ba_len _ _ | exact in_len _ | exact na_len _ | (simp only [ba_len, in_len, na_len]) | rfl) (by first | exact ba_one _ _ | exact in_one _ | exact na_one _ | rfl) (by first | exact ba_len _ _ | exact in_len _ | exact na_len _ | (simp only [ba_len, in_len, na_len]) | rfl) ?_)))
   | (refine z_st1 rfl rfl ?_; first
   | refine o_store rfl tabOk rfl rfl rfl rfl rfl (by first | exact ba_at _ (by omega) | exact in_k _ | exact in_s _ | exact in_n _ (by omega) | exact in_f _ | exact na_at _ (by omega) | rfl) (by first | exact ba_set _ _ _ _ | exact in_set_n _ (by omega) _ | exact in_set_f _ _ | rfl) ?_
   | ((refine z_sti 1 rfl rfl ?_; refine o_store1 rfl tabOk rfl rfl rfl rfl rfl (by first | exact ba_at _ (by omega) | exact in_k _ | exact in_s _ | exact in_n _ (by omega) | exact in_f _ | exact na_at _ (by omega) | rfl) (by first | exact ba_set _ _ _ _ | exact in_set_n _ (by omega) _ | exact in_set_f _ _ | rfl) ?_))
   | ((refine z_sti 2 rfl rfl ?_; refine o_store2 rfl tabOk rfl rfl rfl rfl rfl (by first | exact ba_at _ (by omega) | exact in_k _ | exact in_s _ | exact in_n _ (by omega) | exact in_f _ | exact na_at _ (by omega) | rfl) (by first | exact ba_set _ _ _ _ | exact in_set_n _ (by omega) _ | exact in_set_f _ _ | rfl) ?_))
   | ((refine z_sti 3 rfl rfl ?_; refine o_store3 rfl tabOk rfl rfl rfl rfl rfl (by first | exact ba_at _ (by omega) | exact in_k _ | exact in_s _ | exact in_n _ (by omega) | exact in_f _ | exact na_at _ (by omega) | rfl) (by first | exact ba_set _ _ _ _ | exact in_set_n _ (by omega) _ | exact in_set_f _ _ | rfl) ?_))
   | ((refine z_sti 4 rfl rfl ?_; refine o_store4 rfl tabOk rfl rfl rfl rfl rfl (by first | exact ba_at _ (by omega) | exact in_k _ | exact in_s _ | exact in_n _ (by omega) | exact in_f _ | exact na_at _ (by omega) | rfl) (by first | exact ba_set _ _ _ _ | exact in_set_n _ (by omega) _ | exact in_set_f _ _ | rfl) ?_))
   | ((refine z_sti 5 rfl rfl ?_; refine o_store5 rfl tabOk rfl rfl rfl rfl rfl (by first | exact ba_at _ (by omega) | exact in_k _ | exact in_s _ | exact in_n _ (by omega) | exact in_f _ | exact na_at _ (by omega) | rfl) (by first | exact ba_set _ _ _ _ | exact in_set_n _ (by omega) _ | exact in_set_f _ _ | rfl) ?_))
   | ((refine z_sti 6 rfl rfl ?_; refine o_store6 rfl tabOk rfl rfl rfl rfl rfl (by first | exact ba_at _ (by omega) | exact in_k _ | exact in_s _ | exact in_n _ (by omega) | exact in_f _ | exact na_at _ (by omega) | rfl) (by first | exact ba_set _ _ _ _ | exact in_set_n _ (by omega) _ | exact in_set_f _ _ | rfl) ?_))))
   | (refine z_isindex ?_; first
   | refine o_ixv tabOk rfl rfl rfl rfl rfl (by omega) (by omega) (by first | exact ba_at _ (by omega) | exact in_k _ | exact in_s _ | exact in_n _ (by omega) | exact in_f _ | exact na_at _ (by omega) | rfl) (by decide) ?_)
   | (refine z_iscall ?_; first
   | ((refine z_iscallf 48 ?_; refine o_callv1 Try.func48 rfl rfl rfl (short_c _ _ _ _ _ _ _ _ (by omega) (by omega)) (by decide) (by decide) ?_))
   | ((refine z_iscallf 48 ?_; refine o_call Try.func48 rfl rfl rfl (short_c _ _ _ _ _ _ _ _ (by omega) (by omega)) (List.Perm.refl _) (by decide) fun _ _ => ?_))
   | ((refine z_iscallf 18 ?_; refine o_fn rfl Try.func18 rfl rfl rfl (right_fn _) (by decide) ?_)))
   | (refine z_ispick ?_; first
   | (refine o_pick1 rfl (by first | with_reducible rfl | with_reducible assumption | ((with_reducible refine decide_eq_true ?_); first | with_reducible rfl | with_reducible assumption | omega)) rfl (by decide) ?_)
   | (refine o_pick0 rfl (by first | with_reducible rfl | with_reducible assumption | ((with_reducible refine decide_eq_false ?_); first | with_reducible assumption | omega)) rfl (by decide) ?_)
   | (refine o_pick1 rfl (by first | (simp only [Bool.not_eq_true', decide_eq_false_iff_not]; omega) | (with_reducible assumption) | (rw [decide_eq_false] <;> (first | omega | with_reducible rfl)) | (rw [decide_eq_true] <;> (first | omega | with_reducible rfl)) | (simp; done) | (simp; omega)) rfl (by decide) ?_)
   | (refine o_pick0 rfl (by first | (simp only [Bool.not_eq_false', decide_eq_true_eq]; omega) | (with_reducible assumption) | (rw [decide_eq_false] <;> (first | omega | with_reducible rfl)) | (rw [decide_eq_true] <;> (first | omega | with_reducible rfl)) | (simp; done) | (simp; omega)) rfl (by decide) ?_))
   | (refine z_isix ?_; first
   | refine o_index0 tabOk rfl rfl rfl rfl (by omega) (by omega) (by decide) ?_
   | refine o_index1 tabOk rfl rfl rfl rfl (by omega) (by omega) (by decide) ?_
   | refine o_indexsk1 tabOk rfl rfl rfl rfl (by omega) (by omega) (by decide) ?_
   | refine o_indexsk tabOk rfl rfl rfl rfl (by omega) (by omega) (by decide) ?_
   | refine o_indexs1 tabOk (by first | assumption) rfl rfl rfl rfl (by omega) (by omega) (by decide) ?_)
   | (refine z_isslice ?_; first
   | refine o_slpl1 tabOk rfl rfl rfl rfl (by omega) (by omega) (by decide) ?_
   | refine o_slicelk1 tabOk rfl rfl rfl rfl (by omega) (by omega) (by omega) (by omega) (by decide) ?_
   | refine o_slice tabOk rfl rfl rfl rfl rfl (by omega) (by omega) (by omega) (by decide) ?_
   | refine o_slicel tabOk rfl rfl rfl rfl (by omega) (by omega) (by omega) (by decide) ?_
   | refine o_sliceh tabOk rfl rfl rfl rfl (by omega) (by omega) (by decide) ?_
   | refine o_slp tabOk rfl rfl rfl rfl rfl (by omega) (by omega) (by omega) (by omega) (by decide) ?_
   | refine o_slpl tabOk rfl rfl rfl rfl (by omega) (by omega) (by decide) ?_
   | refine o_slp0 tabOk rfl rfl rfl rfl (by decide) ?_)
   | (refine z_isbi ?_; first
   | refine o_len tabOk rfl rfl (by decide) ?_
   | refine o_min rfl rfl (by decide) ?_
   | refine o_max rfl rfl (by decide) ?_)
   | refine o_move rfl (by decide) ?_
   | refine o_assign rfl (by decide) ?_
   | refine o_nil rfl (by decide) ?_
   | refine o_extract rfl rfl (by decide) ?_
   | refine o_not rfl (by decide) ?_
   | refine o_field0 tabOk rfl rfl rfl rfl rfl (by decide) ?_
   | refine o_field tabOk rfl rfl rfl rfl rfl (by decide) ?_
   | refine o_conv tabOk rfl rfl rfl (by decide) ?_))
theorem put_no (d : Nat → Int) (h : Int) (x : In) (hn : ¬ (0 ≤ h ∧ h ≤ 1) ∨ right x = false) : Pf Try.prog 16 [.agg (ba 64 d).toArray, .int .i64 h, .agg x.cs.toArray] (.tuple #[.agg (ba 64 d).toArray, .bool false]) := by
  intro w hw
  refine f_enter Try.func16 rfl Try.ntmps16 rfl hw ?_
  by_cases h0 : 0 ≤ h ∧ h ≤ 1
  · have e1 : (!right x) = true := by rw [hn.resolve_left (fun g => g h0)]; rfl
    repeat' (first
     | (refine s_is ?_; first
     | (refine s_isret ?_; first
     | exact p_r2 rfl (res_c tabOk rfl rfl rfl 0 rfl (ba_len _ _)) (res_t rfl) rfl)
     | (refine s_isw ?_; first
     | refine c_seq ?_
     | refine c_block ?_
     | refine c_region ?_
     | refine c_mixed mixed (by kernel_rfl) ?_
     | refine c_skip ?_
     | refine c_ret ?_
     | refine c_exit ?_
     | (refine s_iscond ?_; first
     | (refine c_true rfl (by first | with_reducible rfl | with_reducible assumption | ((with_reducible refine decide_eq_true ?_); first | with_reducible rfl | with_reducible assumption | omega)) ?_)
     | (refine c_false rfl (by first | with_reducible rfl | with_reducible assumption | ((with_reducible refine decide_eq_false ?_); first | with_reducible assumption | omega)) ?_)
     | (refine c_true rfl (by first | (simp only [Bool.not_eq_true', decide_eq_false_iff_not]; omega) | (with_reducible assumption) | (rw [decide_eq_false] <;> (first | omega | with_reducible rfl)) | (rw [decide_eq_true] <;> (first | omega | with_reducible rfl)) | (simp; done) | (simp; omega)) ?_)
     | (refine c_false rfl (by first | (simp only [Bool.not_eq_false', decide_eq_true_eq]; omega) | (with_reducible assumption) | (rw [decide_eq_false] <;> (first | omega | with_reducible rfl)) | (rw [decide_eq_true] <;> (first | omega | with_reducible rfl)) | (simp; done) | (simp; omega)) ?_)
     | refine c_cond rfl (fun hc => ?_) (fun hc => ?_)
     | refine c_condb rfl (fun hc => ?_) (fun hc => ?_)))
     | refine x_then ?_
     | refine x_then_ret ?_
     | refine x_then_exit ?_
     | refine x_block _ ?_
     | refine x_block_ret _ ?_
     | refine x_block_exit _ ?_
     | refine x_block_past (by decide) ?_
     | refine z_tailm ?_)
     | (refine z_isg0 ?_; first
     | refine z_skipu (by decide) rfl rfl ?_
     | (refine z_want0 rfl rfl (by first | with_reducible rfl | with_reducible assumption | ((with_reducible refine decide_eq_false ?_); first | with_reducible assumption | omega)) ?_)
     | (refine z_skip0 (by decide) rfl rfl (by first | with_reducible rfl | with_reducible assumption | ((with_reducible refine decide_eq_true ?_); first | with_reducible rfl | with_reducible assumption | omega)) ?_)
     | (refine z_want0 rfl rfl (by first | (simp only [Bool.not_eq_false', decide_eq_true_eq]; omega) | (with_reducible assumption) | (rw [decide_eq_false] <;> (first | omega | with_reducible rfl)) | (rw [decide_eq_true] <;> (first | omega | with_reducible rfl)) | (simp; done) | (simp; omega)) ?_)
     | (refine z_skip0 (by decide) rfl rfl (by first | (simp only [Bool.not_eq_true', decide_eq_false_iff_not]; omega) | (with_reducible assumption) | (rw [decide_eq_false] <;> (first | omega | with_reducible rfl)) | (rw [decide_eq_true] <;> (first | omega | with_reducible rfl)) | (simp; done) | (simp; omega)) ?_)
     | refine z_guard0 (by decide) rfl rfl (fun hc => ?_) (fun hc => ?_)
     | refine z_guardb (by decide) rfl rfl (fun hc => ?_) (fun hc => ?_))
     | (refine z_isnil ?_; first
     | refine z_list ?_
     | refine z_mixed ?_
     | refine z_mono0 ?_
     | refine z_mono1 (by decide) fun g => ?_
     | refine z_mono2 (by decide) (by decide) fun g g' => ?_
     | refine z_mixedx ?_
     | refine z_quiet ?_)
     | (refine z_isop ?_; first
     | refine o_boxa rfl rfl (by decide) fun g => ?_
     | refine o_build0 (t := 34) (v := .agg In.zero.cs.toArray) (fun _ => by kernel_rfl) (by decide) ?_
     | refine o_build0 (t := 28) (v := .agg In.zero.cs.toArray) (fun _ => by kernel_rfl) (by decide) ?_
     | refine o_alloca (e := 37) (vs := ba 32 (fun _ => 0)) rfl (by kernel_rfl) (by decide) fun g => ?_
     | refine o_alloca (e := 31) (vs := ba 64 (fun _ => 0)) rfl (by kernel_rfl) (by decide) fun g => ?_
     | refine o_alloca (e := 34) (vs := In.zero.cs) rfl (by kernel_rfl) (by decide) fun g => ?_
     | (refine z_isbin ?_; first
     | refine o_eqa cmp34 rfl rfl (in_typed _) (in_typed _) (by decide) ?_
     | refine o_eqa cmp28 rfl rfl (in_typed _) (in_typed _) (by decide) ?_
     | (refine z_isb .add ?_; first
     | refine o_add rfl rfl (by omega) (by omega) (by decide) ?_
     | refine o_addw rfl rfl (by decide) ?_)
     | (refine z_isb .mul ?_; first
     | refine o_mul rfl rfl (by omega) (by omega) (by decide) ?_
     | refine o_mulw rfl rfl (by decide) ?_)
     | (refine z_isb .lss ?_; first
     | refine o_lt rfl rfl (by decide) ?_)
     | (refine z_isb .gtr ?_; first
     | refine o_gt rfl rfl (by decide) ?_))
     | (refine z_isload ?_; first
     | refine o_loadp tabOk rfl rfl rfl 0 rfl (na_len _) (in_near _) (by decide) ?_
     | refine o_loadp tabOk rfl rfl rfl 1 rfl (na_len _) (in_near _) (by decide) ?_
     | refine o_loadp tabOk rfl rfl rfl 2 rfl (na_len _) (in_near _) (by decide) ?_
     | (refine z_ld1 tabOk rfl rfl ?_; first
     | refine o_loadm tabOk rfl rfl rfl (by repeat' (first | exact List.mem_cons_self | apply List.mem_cons_of_mem)) (by first | exact ba_at _ (by omega) | exact in_k _ | exact in_s _ | exact in_n _ (by omega) | exact in_f _ | exact na_at _ (by omega) | rfl) (by decide) ?_
     | refine o_loads tabOk (by first | assumption | exact Rds.cons _ (by assumption) | exact Rds.cons _ (Rds.cons _ (by assumption)) | exact own_rds 0 rfl | exact own_rds 1 rfl | exact own_rds 2 rfl) rfl rfl rfl (by first | exact ba_at _ (by omega) | exact in_k _ | exact in_s _ | exact in_n _ (by omega) | exact in_f _ | exact na_at _ (by omega) | rfl) (by decide) ?_)
     | (refine z_ldw tabOk rfl rfl ?_; first
     | refine o_loadwm tabOk rfl rfl rfl (by repeat' (first | exact List.mem_cons_self | apply List.mem_cons_of_mem)) (by first | exact ba_len _ _ | exact in_len _ | exact na_len _ | (simp only [ba_len, in_len, na_len]) | rfl) (by decide) ?_))
     | (refine z_isstore ?_; first
     | (refine z_stw rfl ?_; first
     | ((refine z_sti 0 rfl rfl ?_; refine o_storeb0 rfl tabOk rfl rfl rfl (by first | exact ba_len _ _ | exact in_len _ | exact na_len _ | (simp only [ba_len, in_len, na_len]) | rfl) (by first | exact ba_one _ _ | exact in_one _ | exact na_one _ | rfl) (by first | exact ba_len _ _ | exact in_len _ | exact na_len _ | (simp only [ba_len, in_len, na_len]) | rfl) ?_))
     | ((refine z_sti 1 rfl rfl ?_; refine o_storeb1 rfl tabOk rfl rfl rfl (by first | exact ba_len _ _ | exact in_len _ | exact na_len _ | (simp only [ba_len, in_len, na_len]) | rfl) (by first | exact ba_one _ _ | exact in_one _ | exact na_one _ | rfl) (by first | exact ba_len _ _ | exact in_len _ | exact na_len _ | (simp only [ba_len, in_len, na_len]) | rfl) ?_))
     | ((refine z_sti 2 rfl rfl ?_; refine o_storeb2 rfl tabOk rfl rfl rfl (by first | exact ba_len _ _ | exact in_len _ | exact na_len _ | (simp only [ba_len, in_len, na_len]) | rfl) (by first | exact ba_one _ _ | exact in_one _ | exact na_one _ | rfl) (by first | exact ba_len _ _ | exact in_len _ | exact na_len _ | (simp only [ba_len, in_len, na_len]) | rfl) ?_))
     | ((refine z_sti 3 rfl rfl ?_; refine o_storeb3 rfl tabOk rfl rfl rfl (by first | exact ba_len _ _ | exact in_len _ | exact na_len _ | (simp only [ba_len, in_len, na_len]) | rfl) (by first | exact ba_one _ _ | exact in_one _ | exact na_one _ | rfl) (by first | exact ba_len _ _ | exact in_len _ | exact na_len _ | (simp only [ba_len, in_len, na_len]) | rfl) ?_))
     | ((refine z_sti 4 rfl rfl ?_; refine o_storeb4 rfl tabOk rfl rfl rfl (by first | exact ba_len _ _ | exact in_len _ | exact na_len _ | (simp only [ba_len, in_len, na_len]) | rfl) (by first | exact ba_one _ _ | exact in_one _ | exact na_one _ | rfl) (by first | exact ba_len _ _ | exact in_len _ | exact na_len _ | (simp only [ba_len, in_len, na_len]) | rfl) ?_))
     | ((refine z_sti 5 rfl rfl ?_; refine o_storeb5 rfl tabOk rfl rfl rfl (by first | exact ba_len _ _ | exact in_len _ | exact na_len _ | (simp only [ba_len, in_len, na_len]) | rfl) (by first | exact ba_one _ _ | exact in_one _ | exact na_one _ | rfl) (by first | exact ba_len _ _ | exact in_len _ | exact na_len _ | (simp only [ba_len, in_len, na_len]) | rfl) ?_))
     | ((refine z_sti 6 rfl rfl ?_; refine o_storeb6 rfl tabOk rfl rfl rfl (by first | exact ba_len _ _ | exact in_len _ | exact na_len _ | (simp only [ba_len, in_len, na_len]) | rfl) (by first | exact ba_one _ _ | exact in_one _ | exact na_one _ | rfl) (by first | exact ba_len _ _ | exact in_len _ | exact na_len _ | (simp only [ba_len, in_len, na_len]) | rfl) ?_)))
     | (refine z_st1 rfl rfl ?_; first
     | refine o_store rfl tabOk rfl rfl rfl rfl rfl (by first | exact ba_at _ (by omega) | exact in_k _ | exact in_s _ | exact in_n _ (by omega) | exact in_f _ | exact na_at _ (by omega) | rfl) (by first | exact ba_set _ _ _ _ | exact in_set_n _ (by omega) _ | exact in_set_f _ _ | rfl) ?_
     | ((refine z_sti 1 rfl rfl ?_; refine o_store1 rfl tabOk rfl rfl rfl rfl rfl (by first | exact ba_at _ (by omega) | exact in_k _ | exact in_s _ | exact in_n _ (by omega) | exact in_f _ | exact na_at _ (by omega) | rfl) (by first | exact ba_set _ _ _ _ | exact in_set_n _ (by omega) _ | exact in_set_f _ _ | rfl) ?_))
     | ((refine z_sti 2 rfl rfl ?_; refine o_store2 rfl tabOk rfl rfl rfl rfl rfl (by first | exact ba_at _ (by omega) | exact in_k _ | exact in_s _ | exact in_n _ (by omega) | exact in_f _ | exact na_at _ (by omega) | rfl) (by first | exact ba_set _ _ _ _ | exact in_set_n _ (by omega) _ | exact in_set_f _ _ | rfl) ?_))
     | ((refine z_sti 3 rfl rfl ?_; refine o_store3 rfl tabOk rfl rfl rfl rfl rfl (by first | exact ba_at _ (by omega) | exact in_k _ | exact in_s _ | exact in_n _ (by omega) | exact in_f _ | exact na_at _ (by omega) | rfl) (by first | exact ba_set _ _ _ _ | exact in_set_n _ (by omega) _ | exact in_set_f _ _ | rfl) ?_))
     | ((refine z_sti 4 rfl rfl ?_; refine o_store4 rfl tabOk rfl rfl rfl rfl rfl (by first | exact ba_at _ (by omega) | exact in_k _ | exact in_s _ | exact in_n _ (by omega) | exact in_f _ | exact na_at _ (by omega) | rfl) (by first | exact ba_set _ _ _ _ | exact in_set_n _ (by omega) _ | exact in_set_f _ _ | rfl) ?_))
     | ((refine z_sti 5 rfl rfl ?_; refine o_store5 rfl tabOk rfl rfl rfl rfl rfl (by first | exact ba_at _ (by omega) | exact in_k _ | exact in_s _ | exact in_n _ (by omega) | exact in_f _ | exact na_at _ (by omega) | rfl) (by first | exact ba_set _ _ _ _ | exact in_set_n _ (by omega) _ | exact in_set_f _ _ | rfl) ?_))
     | ((refine z_sti 6 rfl rfl ?_; refine o_store6 rfl tabOk rfl rfl rfl rfl rfl (by first | exact ba_at _ (by omega) | exact in_k _ | exact in_s _ | exact in_n _ (by omega) | exact in_f _ | exact na_at _ (by omega) | rfl) (by first | exact ba_set _ _ _ _ | exact in_set_n _ (by omega) _ | exact in_set_f _ _ | rfl) ?_))))
     | (refine z_isindex ?_; first
     | refine o_ixv tabOk rfl rfl rfl rfl rfl (by omega) (by omega) (by first | exact ba_at _ (by omega) | exact in_k _ | exact in_s _ | exact in_n _ (by omega) | exact in_f _ | exact na_at _ (by omega) | rfl) (by decide) ?_)
     | (refine z_iscall ?_; first
     | ((refine z_iscallf 18 ?_; refine o_fn rfl Try.func18 rfl rfl rfl (right_fn _) (by decide) ?_)))
     | (refine z_ispick ?_; first
     | (refine o_pick1 rfl (by first | with_reducible rfl | with_reducible assumption | ((with_reducible refine decide_eq_true ?_); first | with_reducible rfl | with_reducible assumption | omega)) rfl (by decide) ?_)
     | (refine o_pick0 rfl (by first | with_reducible rfl | with_reducible assumption | ((with_reducible refine decide_eq_false ?_); first | with_reducible assumption | omega)) rfl (by decide) ?_)
     | (refine o_pick1 rfl (by first | (simp only [Bool.not_eq_true', decide_eq_false_iff_not]; omega) | (with_reducible assumption) | (rw [decide_eq_false] <;> (first | omega | with_reducible rfl)) | (rw [decide_eq_true] <;> (first | omega | with_reducible rfl)) | (simp; done) | (simp; omega)) rfl (by decide) ?_)
     | (refine o_pick0 rfl (by first | (simp only [Bool.not_eq_false', decide_eq_true_eq]; omega) | (with_reducible assumption) | (rw [decide_eq_false] <;> (first | omega | with_reducible rfl)) | (rw [decide_eq_true] <;> (first | omega | with_reducible rfl)) | (simp; done) | (simp; omega)) rfl (by decide) ?_))
     | (refine z_isix ?_; first
     | refine o_index0 tabOk rfl rfl rfl rfl (by omega) (by omega) (by decide) ?_
     | refine o_index1 tabOk rfl rfl rfl rfl (by omega) (by omega) (by decide) ?_
     | refine o_indexsk1 tabOk rfl rfl rfl rfl (by omega) (by omega) (by decide) ?_
     | refine o_indexsk tabOk rfl rfl rfl rfl (by omega) (by omega) (by decide) ?_
     | refine o_indexs1 tabOk (by first | assumption) rfl rfl rfl rfl (by omega) (by omega) (by decide) ?_)
     | (refine z_isslice ?_; first
     | refine o_slpl1 tabOk rfl rfl rfl rfl (by omega) (by omega) (by decide) ?_
     | refine o_slicelk1 tabOk rfl rfl rfl rfl (by omega) (by omega) (by omega) (by omega) (by decide) ?_
     | refine o_slice tabOk rfl rfl rfl rfl rfl (by omega) (by omega) (by omega) (by decide) ?_
     | refine o_slicel tabOk rfl rfl rfl rfl (by omega) (by omega) (by omega) (by decide) ?_
     | refine o_sliceh tabOk rfl rfl rfl rfl (by omega) (by omega) (by decide) ?_
     | refine o_slp tabOk rfl rfl rfl rfl rfl (by omega) (by omega) (by omega) (by omega) (by decide) ?_
     | refine o_slpl tabOk rfl rfl rfl rfl (by omega) (by omega) (by decide) ?_
     | refine o_slp0 tabOk rfl rfl rfl rfl (by decide) ?_)
     | (refine z_isbi ?_; first
     | refine o_len tabOk rfl rfl (by decide) ?_
     | refine o_min rfl rfl (by decide) ?_
     | refine o_max rfl rfl (by decide) ?_)
     | refine o_move rfl (by decide) ?_
     | refine o_assign rfl (by decide) ?_
     | refine o_nil rfl (by decide) ?_
     | refine o_extract rfl rfl (by decide) ?_
     | refine o_not rfl (by decide) ?_
     | refine o_field0 tabOk rfl rfl rfl rfl rfl (by decide) ?_
     | refine o_field tabOk rfl rfl rfl rfl rfl (by decide) ?_
     | refine o_conv tabOk rfl rfl rfl (by decide) ?_))
  · skip
    repeat' (first
     | (refine s_is ?_; first
     | (refine s_isret ?_; first
     | exact p_r2 rfl (res_c tabOk rfl rfl rfl 0 rfl (ba_len _ _)) (res_t rfl) rfl)
     | (refine s_isw ?_; first
     | refine c_seq ?_
     | refine c_block ?_
     | refine c_region ?_
     | refine c_mixed mixed (by kernel_rfl) ?_
     | refine c_skip ?_
     | refine c_ret ?_
     | refine c_exit ?_
     | (refine s_iscond ?_; first
     | (refine c_true rfl (by first | with_reducible rfl | with_reducible assumption | ((with_reducible refine decide_eq_true ?_); first | with_reducible rfl | with_reducible assumption | omega)) ?_)
     | (refine c_false rfl (by first | with_reducible rfl | with_reducible assumption | ((with_reducible refine decide_eq_false ?_); first | with_reducible assumption | omega)) ?_)
     | (refine c_true rfl (by first | (simp only [Bool.not_eq_true', decide_eq_false_iff_not]; omega) | (with_reducible assumption) | (rw [decide_eq_false] <;> (first | omega | with_reducible rfl)) | (rw [decide_eq_true] <;> (first | omega | with_reducible rfl)) | (simp; done) | (simp; omega)) ?_)
     | (refine c_false rfl (by first | (simp only [Bool.not_eq_false', decide_eq_true_eq]; omega) | (with_reducible assumption) | (rw [decide_eq_false] <;> (first | omega | with_reducible rfl)) | (rw [decide_eq_true] <;> (first | omega | with_reducible rfl)) | (simp; done) | (simp; omega)) ?_)
     | refine c_cond rfl (fun hc => ?_) (fun hc => ?_)
     | refine c_condb rfl (fun hc => ?_) (fun hc => ?_)))
     | refine x_then ?_
     | refine x_then_ret ?_
     | refine x_then_exit ?_
     | refine x_block _ ?_
     | refine x_block_ret _ ?_
     | refine x_block_exit _ ?_
     | refine x_block_past (by decide) ?_
     | refine z_tailm ?_)
     | (refine z_isg0 ?_; first
     | refine z_skipu (by decide) rfl rfl ?_
     | (refine z_want0 rfl rfl (by first | with_reducible rfl | with_reducible assumption | ((with_reducible refine decide_eq_false ?_); first | with_reducible assumption | omega)) ?_)
     | (refine z_skip0 (by decide) rfl rfl (by first | with_reducible rfl | with_reducible assumption | ((with_reducible refine decide_eq_true ?_); first | with_reducible rfl | with_reducible assumption | omega)) ?_)
     | (refine z_want0 rfl rfl (by first | (simp only [Bool.not_eq_false', decide_eq_true_eq]; omega) | (with_reducible assumption) | (rw [decide_eq_false] <;> (first | omega | with_reducible rfl)) | (rw [decide_eq_true] <;> (first | omega | with_reducible rfl)) | (simp; done) | (simp; omega)) ?_)
     | (refine z_skip0 (by decide) rfl rfl (by first | (simp only [Bool.not_eq_true', decide_eq_false_iff_not]; omega) | (with_reducible assumption) | (rw [decide_eq_false] <;> (first | omega | with_reducible rfl)) | (rw [decide_eq_true] <;> (first | omega | with_reducible rfl)) | (simp; done) | (simp; omega)) ?_)
     | refine z_guard0 (by decide) rfl rfl (fun hc => ?_) (fun hc => ?_)
     | refine z_guardb (by decide) rfl rfl (fun hc => ?_) (fun hc => ?_))
     | (refine z_isnil ?_; first
     | refine z_list ?_
     | refine z_mixed ?_
     | refine z_mono0 ?_
     | refine z_mono1 (by decide) fun g => ?_
     | refine z_mono2 (by decide) (by decide) fun g g' => ?_
     | refine z_mixedx ?_
     | refine z_quiet ?_)
     | (refine z_isop ?_; first
     | refine o_boxa rfl rfl (by decide) fun g => ?_
     | refine o_build0 (t := 34) (v := .agg In.zero.cs.toArray) (fun _ => by kernel_rfl) (by decide) ?_
     | refine o_build0 (t := 28) (v := .agg In.zero.cs.toArray) (fun _ => by kernel_rfl) (by decide) ?_
     | refine o_alloca (e := 37) (vs := ba 32 (fun _ => 0)) rfl (by kernel_rfl) (by decide) fun g => ?_
     | refine o_alloca (e := 31) (vs := ba 64 (fun _ => 0)) rfl (by kernel_rfl) (by decide) fun g => ?_
     | refine o_alloca (e := 34) (vs := In.zero.cs) rfl (by kernel_rfl) (by decide) fun g => ?_
     | (refine z_isbin ?_; first
     | refine o_eqa cmp34 rfl rfl (in_typed _) (in_typed _) (by decide) ?_
     | refine o_eqa cmp28 rfl rfl (in_typed _) (in_typed _) (by decide) ?_
     | (refine z_isb .add ?_; first
     | refine o_add rfl rfl (by omega) (by omega) (by decide) ?_
     | refine o_addw rfl rfl (by decide) ?_)
     | (refine z_isb .mul ?_; first
     | refine o_mul rfl rfl (by omega) (by omega) (by decide) ?_
     | refine o_mulw rfl rfl (by decide) ?_)
     | (refine z_isb .lss ?_; first
     | refine o_lt rfl rfl (by decide) ?_)
     | (refine z_isb .gtr ?_; first
     | refine o_gt rfl rfl (by decide) ?_))
     | (refine z_isload ?_; first
     | refine o_loadp tabOk rfl rfl rfl 0 rfl (na_len _) (in_near _) (by decide) ?_
     | refine o_loadp tabOk rfl rfl rfl 1 rfl (na_len _) (in_near _) (by decide) ?_
     | refine o_loadp tabOk rfl rfl rfl 2 rfl (na_len _) (in_near _) (by decide) ?_
     | (refine z_ld1 tabOk rfl rfl ?_; first
     | refine o_loadm tabOk rfl rfl rfl (by repeat' (first | exact List.mem_cons_self | apply List.mem_cons_of_mem)) (by first | exact ba_at _ (by omega) | exact in_k _ | exact in_s _ | exact in_n _ (by omega) | exact in_f _ | exact na_at _ (by omega) | rfl) (by decide) ?_
     | refine o_loads tabOk (by first | assumption | exact Rds.cons _ (by assumption) | exact Rds.cons _ (Rds.cons _ (by assumption)) | exact own_rds 0 rfl | exact own_rds 1 rfl | exact own_rds 2 rfl) rfl rfl rfl (by first | exact ba_at _ (by omega) | exact in_k _ | exact in_s _ | exact in_n _ (by omega) | exact in_f _ | exact na_at _ (by omega) | rfl) (by decide) ?_)
     | (refine z_ldw tabOk rfl rfl ?_; first
     | refine o_loadwm tabOk rfl rfl rfl (by repeat' (first | exact List.mem_cons_self | apply List.mem_cons_of_mem)) (by first | exact ba_len _ _ | exact in_len _ | exact na_len _ | (simp only [ba_len, in_len, na_len]) | rfl) (by decide) ?_))
     | (refine z_isstore ?_; first
     | (refine z_stw rfl ?_; first
     | ((refine z_sti 0 rfl rfl ?_; refine o_storeb0 rfl tabOk rfl rfl rfl (by first | exact ba_len _ _ | exact in_len _ | exact na_len _ | (simp only [ba_len, in_len, na_len]) | rfl) (by first | exact ba_one _ _ | exact in_one _ | exact na_one _ | rfl) (by first | exact ba_len _ _ | exact in_len _ | exact na_len _ | (simp only [ba_len, in_len, na_len]) | rfl) ?_))
     | ((refine z_sti 1 rfl rfl ?_; refine o_storeb1 rfl tabOk rfl rfl rfl (by first | exact ba_len _ _ | exact in_len _ | exact na_len _ | (simp only [ba_len, in_len, na_len]) | rfl) (by first | exact ba_one _ _ | exact in_one _ | exact na_one _ | rfl) (by first | exact ba_len _ _ | exact in_len _ | exact na_len _ | (simp only [ba_len, in_len, na_len]) | rfl) ?_))
     | ((refine z_sti 2 rfl rfl ?_; refine o_storeb2 rfl tabOk rfl rfl rfl (by first | exact ba_len _ _ | exact in_len _ | exact na_len _ | (simp only [ba_len, in_len, na_len]) | rfl) (by first | exact ba_one _ _ | exact in_one _ | exact na_one _ | rfl) (by first | exact ba_len _ _ | exact in_len _ | exact na_len _ | (simp only [ba_len, in_len, na_len]) | rfl) ?_))
     | ((refine z_sti 3 rfl rfl ?_; refine o_storeb3 rfl tabOk rfl rfl rfl (by first | exact ba_len _ _ | exact in_len _ | exact na_len _ | (simp only [ba_len, in_len, na_len]) | rfl) (by first | exact ba_one _ _ | exact in_one _ | exact na_one _ | rfl) (by first | exact ba_len _ _ | exact in_len _ | exact na_len _ | (simp only [ba_len, in_len, na_len]) | rfl) ?_))
     | ((refine z_sti 4 rfl rfl ?_; refine o_storeb4 rfl tabOk rfl rfl rfl (by first | exact ba_len _ _ | exact in_len _ | exact na_len _ | (simp only [ba_len, in_len, na_len]) | rfl) (by first | exact ba_one _ _ | exact in_one _ | exact na_one _ | rfl) (by first | exact ba_len _ _ | exact in_len _ | exact na_len _ | (simp only [ba_len, in_len, na_len]) | rfl) ?_))
     | ((refine z_sti 5 rfl rfl ?_; refine o_storeb5 rfl tabOk rfl rfl rfl (by first | exact ba_len _ _ | exact in_len _ | exact na_len _ | (simp only [ba_len, in_len, na_len]) | rfl) (by first | exact ba_one _ _ | exact in_one _ | exact na_one _ | rfl) (by first | exact ba_len _ _ | exact in_len _ | exact na_len _ | (simp only [ba_len, in_len, na_len]) | rfl) ?_))
     | ((refine z_sti 6 rfl rfl ?_; refine o_storeb6 rfl tabOk rfl rfl rfl (by first | exact ba_len _ _ | exact in_len _ | exact na_len _ | (simp only [ba_len, in_len, na_len]) | rfl) (by first | exact ba_one _ _ | exact in_one _ | exact na_one _ | rfl) (by first | exact ba_len _ _ | exact in_len _ | exact na_len _ | (simp only [ba_len, in_len, na_len]) | rfl) ?_)))
     | (refine z_st1 rfl rfl ?_; first
     | refine o_store rfl tabOk rfl rfl rfl rfl rfl (by first | exact ba_at _ (by omega) | exact in_k _ | exact in_s _ | exact in_n _ (by omega) | exact in_f _ | exact na_at _ (by omega) | rfl) (by first | exact ba_set _ _ _ _ | exact in_set_n _ (by omega) _ | exact in_set_f _ _ | rfl) ?_
     | ((refine z_sti 1 rfl rfl ?_; refine o_store1 rfl tabOk rfl rfl rfl rfl rfl (by first | exact ba_at _ (by omega) | exact in_k _ | exact in_s _ | exact in_n _ (by omega) | exact in_f _ | exact na_at _ (by omega) | rfl) (by first | exact ba_set _ _ _ _ | exact in_set_n _ (by omega) _ | exact in_set_f _ _ | rfl) ?_))
     | ((refine z_sti 2 rfl rfl ?_; refine o_store2 rfl tabOk rfl rfl rfl rfl rfl (by first | exact ba_at _ (by omega) | exact in_k _ | exact in_s _ | exact in_n _ (by omega) | exact in_f _ | exact na_at _ (by omega) | rfl) (by first | exact ba_set _ _ _ _ | exact in_set_n _ (by omega) _ | exact in_set_f _ _ | rfl) ?_))
     | ((refine z_sti 3 rfl rfl ?_; refine o_store3 rfl tabOk rfl rfl rfl rfl rfl (by first | exact ba_at _ (by omega) | exact in_k _ | exact in_s _ | exact in_n _ (by omega) | exact in_f _ | exact na_at _ (by omega) | rfl) (by first | exact ba_set _ _ _ _ | exact in_set_n _ (by omega) _ | exact in_set_f _ _ | rfl) ?_))
     | ((refine z_sti 4 rfl rfl ?_; refine o_store4 rfl tabOk rfl rfl rfl rfl rfl (by first | exact ba_at _ (by omega) | exact in_k _ | exact in_s _ | exact in_n _ (by omega) | exact in_f _ | exact na_at _ (by omega) | rfl) (by first | exact ba_set _ _ _ _ | exact in_set_n _ (by omega) _ | exact in_set_f _ _ | rfl) ?_))
     | ((refine z_sti 5 rfl rfl ?_; refine o_store5 rfl tabOk rfl rfl rfl rfl rfl (by first | exact ba_at _ (by omega) | exact in_k _ | exact in_s _ | exact in_n _ (by omega) | exact in_f _ | exact na_at _ (by omega) | rfl) (by first | exact ba_set _ _ _ _ | exact in_set_n _ (by omega) _ | exact in_set_f _ _ | rfl) ?_))
     | ((refine z_sti 6 rfl rfl ?_; refine o_store6 rfl tabOk rfl rfl rfl rfl rfl (by first | exact ba_at _ (by omega) | exact in_k _ | exact in_s _ | exact in_n _ (by omega) | exact in_f _ | exact na_at _ (by omega) | rfl) (by first | exact ba_set _ _ _ _ | exact in_set_n _ (by omega) _ | exact in_set_f _ _ | rfl) ?_))))
     | (refine z_isindex ?_; first
     | refine o_ixv tabOk rfl rfl rfl rfl rfl (by omega) (by omega) (by first | exact ba_at _ (by omega) | exact in_k _ | exact in_s _ | exact in_n _ (by omega) | exact in_f _ | exact na_at _ (by omega) | rfl) (by decide) ?_)
     | (refine z_iscall ?_; first
     | ((refine z_iscallf 18 ?_; refine o_fn rfl Try.func18 rfl rfl rfl (right_fn _) (by decide) ?_)))
     | (refine z_ispick ?_; first
     | (refine o_pick1 rfl (by first | with_reducible rfl | with_reducible assumption | ((with_reducible refine decide_eq_true ?_); first | with_reducible rfl | with_reducible assumption | omega)) rfl (by decide) ?_)
     | (refine o_pick0 rfl (by first | with_reducible rfl | with_reducible assumption | ((with_reducible refine decide_eq_false ?_); first | with_reducible assumption | omega)) rfl (by decide) ?_)
     | (refine o_pick1 rfl (by first | (simp only [Bool.not_eq_true', decide_eq_false_iff_not]; omega) | (with_reducible assumption) | (rw [decide_eq_false] <;> (first | omega | with_reducible rfl)) | (rw [decide_eq_true] <;> (first | omega | with_reducible rfl)) | (simp; done) | (simp; omega)) rfl (by decide) ?_)
     | (refine o_pick0 rfl (by first | (simp only [Bool.not_eq_false', decide_eq_true_eq]; omega) | (with_reducible assumption) | (rw [decide_eq_false] <;> (first | omega | with_reducible rfl)) | (rw [decide_eq_true] <;> (first | omega | with_reducible rfl)) | (simp; done) | (simp; omega)) rfl (by decide) ?_))
     | (refine z_isix ?_; first
     | refine o_index0 tabOk rfl rfl rfl rfl (by omega) (by omega) (by decide) ?_
     | refine o_index1 tabOk rfl rfl rfl rfl (by omega) (by omega) (by decide) ?_
     | refine o_indexsk1 tabOk rfl rfl rfl rfl (by omega) (by omega) (by decide) ?_
     | refine o_indexsk tabOk rfl rfl rfl rfl (by omega) (by omega) (by decide) ?_
     | refine o_indexs1 tabOk (by first | assumption) rfl rfl rfl rfl (by omega) (by omega) (by decide) ?_)
     | (refine z_isslice ?_; first
     | refine o_slpl1 tabOk rfl rfl rfl rfl (by omega) (by omega) (by decide) ?_
     | refine o_slicelk1 tabOk rfl rfl rfl rfl (by omega) (by omega) (by omega) (by omega) (by decide) ?_
     | refine o_slice tabOk rfl rfl rfl rfl rfl (by omega) (by omega) (by omega) (by decide) ?_
     | refine o_slicel tabOk rfl rfl rfl rfl (by omega) (by omega) (by omega) (by decide) ?_
     | refine o_sliceh tabOk rfl rfl rfl rfl (by omega) (by omega) (by decide) ?_
     | refine o_slp tabOk rfl rfl rfl rfl rfl (by omega) (by omega) (by omega) (by omega) (by decide) ?_
     | refine o_slpl tabOk rfl rfl rfl rfl (by omega) (by omega) (by decide) ?_
     | refine o_slp0 tabOk rfl rfl rfl rfl (by decide) ?_)
     | (refine z_isbi ?_; first
     | refine o_len tabOk rfl rfl (by decide) ?_
     | refine o_min rfl rfl (by decide) ?_
     | refine o_max rfl rfl (by decide) ?_)
     | refine o_move rfl (by decide) ?_
     | refine o_assign rfl (by decide) ?_
     | refine o_nil rfl (by decide) ?_
     | refine o_extract rfl rfl (by decide) ?_
     | refine o_not rfl (by decide) ?_
     | refine o_field0 tabOk rfl rfl rfl rfl rfl (by decide) ?_
     | refine o_field tabOk rfl rfl rfl rfl rfl (by decide) ?_
     | refine o_conv tabOk rfl rfl rfl (by decide) ?_))
theorem put_fn (d : Nat → Int) (h : Int) (x : In) : Pf Try.prog 16 [.agg (ba 64 d).toArray, .int .i64 h, .agg x.cs.toArray] (.tuple #[.agg (ba 64 (put d h x)).toArray, .bool (okP h x)]) := by
  by_cases h0 : 0 ≤ h ∧ h ≤ 1
  · rcases Bool.eq_false_or_eq_true (right x) with hr | hr
    · have e : okP h x = true := by unfold okP; simp [h0, hr]
      unfold put
      rw [if_pos e, e]
      exact put_yes d h x h0.1 h0.2 hr
    · have e : okP h x = false := by unfold okP; simp [hr]
      unfold put
      rw [if_neg (by rw [e]; simp), e]
      exact put_no d h x (.inr hr)
  · have e : okP h x = false := by unfold okP; simp [h0]
    unfold put
    rw [if_neg (by rw [e]; simp), e]
    exact put_no d h x (.inl h0)
end Go.Proofs.Ytmfnjmmdchlkiaa
