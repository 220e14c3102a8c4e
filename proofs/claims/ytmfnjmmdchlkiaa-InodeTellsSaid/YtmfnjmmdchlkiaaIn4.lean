/-
The document's number of blocks, the laws' own probe, and the law of the sizes.
-/
import Derived.Test.YtmfnjmmdchlkiaaIn3
namespace Go.Proofs.Ytmfnjmmdchlkiaa
set_option linter.unusedVariables false
set_option linter.unusedSimpArgs false
open Eng
def aw : In := ⟨1, 3, upd (fun _ => 0) 0 40, 0⟩
theorem aw_ok : okP 0 aw = true := by decide +kernel
theorem aw_0 : put (fun _ => 0) 0 aw 0 = 1 := by decide +kernel
theorem aw_2 : put (fun _ => 0) 0 aw 2 = 3 := by decide +kernel
theorem aw_4 : put (fun _ => 0) 0 aw 4 = 40 := by decide +kernel
theorem aw_b : blk 65 = 2 := by decide +kernel
theorem aw_a : allB 513 = 10 := by decide +kernel
attribute [local irreducible] Eng.Hold Eng.Z Eng.S Eng.cells Eng.old Eng.own ba na In.cs blk lo hi lg numOk upTo inK Eng.eqB right
attribute [local irreducible] encN enc okP put allB
set_option maxHeartbeats 4000000 in
theorem awake25 : Pf Try.prog 14 [] (.bool true) := by
  intro w hw
  have e0 := aw_ok
  have e1 : decide (put (fun _ => 0) 0 aw (Int.toNat 0) = 1) = true := by rw [show Int.toNat 0 = 0 from rfl, aw_0]; rfl
  have e2 : decide (put (fun _ => 0) 0 aw (Int.toNat 2) = 3) = true := by rw [show Int.toNat 2 = 2 from rfl, aw_2]; rfl
  have e3 : decide (put (fun _ => 0) 0 aw (Int.toNat 4) = 40) = true := by rw [show Int.toNat 4 = 4 from rfl, aw_4]; rfl
  have e4 : decide (blk 65 = 2) = true := by rw [aw_b]; rfl
  have e5 : decide (allB 513 = 10) = true := by rw [aw_a]; rfl
  refine f_enter Try.func14 rfl Try.ntmps14 rfl hw ?_
  repeat' (first
   | (refine s_is ?_; first
   | (refine s_isret ?_; first
   | (exact p_r1 rfl (res_t (by show some (Value.bool _) = some (Value.bool _); simp only [e0, e1, e2, e3, e4, e5]))))
   | (refine s_isw ?_; first
   | refine c_seq ?_
   | refine c_block ?_
   | refine c_region ?_
   | refine c_mixed mixed (by kernel_rfl) ?_
   | refine c_skip ?_
   | refine c_ret ?_
   | refine c_exit ?_
   | (refine s_iscond ?_; first
   | (refine c_true rfl (by first | with_reducible rfl | with_reducible assumption | ((with_reducible refine decide_eq_true ?_); first | with_reducible rfl | with_reducible assumption | omega)) ?_)
   | (refine c_false rfl (by first | with_reducible rfl | with_reducible assumption | ((with_reducible refine decide_eq_false ?_); first | with_reducible assumption | omega)) ?_)
   | (refine c_true rfl (by first | (simp only [Bool.not_eq_true', decide_eq_false_iff_not]; omega) | (with_reducible assumption) | (rw [decide_eq_false] <;> (first | omega | with_reducible rfl)) | (rw [decide_eq_true] <;> (first | omega | with_reducible rfl)) | (simp; done) | (simp; omega)) ?_)
   | (refine c_false rfl (by first | (simp only [Bool.not_eq_false', decide_eq_true_eq]; omega) | (with_reducible assumption) | (rw [decide_eq_false] <;> (first | omega | with_reducible rfl)) | (rw [decide_eq_true] <;> (first | omega | with_reducible rfl)) | (simp; done) | (simp; omega)) ?_)
   | refine c_cond rfl (fun hc => ?_) (fun hc => ?_)
   | refine c_condb rfl (fun hc => ?_) (fun hc => ?_)))
   | refine x_then ?_
   | refine x_then_ret ?_
   | refine x_then_exit ?_
   | refine x_block _ ?_
   | refine x_block_ret _ ?_
   | refine x_block_exit _ ?_
   | refine x_block_past (by decide) ?_
   | refine z_tailm ?_)
   | (refine z_isg1 ?_; first
   | refine z_skipu (by decide) rfl rfl ?_
   | (refine z_want1 rfl rfl (by first | with_reducible rfl | with_reducible assumption | ((with_reducible refine decide_eq_true ?_); first | with_reducible rfl | with_reducible assumption | omega)) ?_)
   | (refine z_skip1 (by decide) rfl rfl (by first | with_reducible rfl | with_reducible assumption | ((with_reducible refine decide_eq_false ?_); first | with_reducible assumption | omega)) ?_)
   | (refine z_want1 rfl rfl (by first | (simp only [Bool.not_eq_true', decide_eq_false_iff_not]; omega) | (with_reducible assumption) | (rw [decide_eq_false] <;> (first | omega | with_reducible rfl)) | (rw [decide_eq_true] <;> (first | omega | with_reducible rfl)) | (simp; done) | (simp; omega)) ?_)
   | (refine z_skip1 (by decide) rfl rfl (by first | (simp only [Bool.not_eq_false', decide_eq_true_eq]; omega) | (with_reducible assumption) | (rw [decide_eq_false] <;> (first | omega | with_reducible rfl)) | (rw [decide_eq_true] <;> (first | omega | with_reducible rfl)) | (simp; done) | (simp; omega)) ?_)
   | refine z_guard1 (by decide) rfl rfl (fun hc => ?_) (fun hc => ?_)
   | refine z_guardb (by decide) rfl rfl (fun hc => ?_) (fun hc => ?_))
   | (refine z_isnil ?_; first
   | refine z_list ?_
   | refine z_mixed ?_
   | refine z_mono0 ?_
   | refine z_mono1 (by decide) fun g => ?_
   | refine z_mono2 (by decide) (by decide) fun g g' => ?_
   | refine z_mixedx ?_
   | refine z_quiet ?_)
   | (refine z_isop ?_; first
   | refine o_build (t := 34) (v := .agg aw.cs.toArray) rfl (fun _ => by kernel_rfl) (by decide) ?_
   | refine o_boxa rfl rfl (by decide) fun g => ?_
   | refine o_build0 (t := 34) (v := .agg In.zero.cs.toArray) (fun _ => by kernel_rfl) (by decide) ?_
   | refine o_build0 (t := 28) (v := .agg In.zero.cs.toArray) (fun _ => by kernel_rfl) (by decide) ?_
   | refine o_alloca (e := 31) (vs := ba 64 (fun _ => 0)) rfl (by kernel_rfl) (by decide) fun g => ?_
   | refine o_build0 (t := 31) (v := .agg (ba 64 (fun _ => 0)).toArray) (fun _ => by kernel_rfl) (by decide) ?_
   | refine o_build (t := 26) (v := .agg (na (upd (fun _ => 0) 0 40)).toArray) rfl (fun _ => by kernel_rfl) (by decide) ?_
   | (refine z_isbin ?_; first
   | refine o_eqa cmp34 rfl rfl (in_typed _) (in_typed _) (by decide) ?_
   | refine o_eqa cmp28 rfl rfl (in_typed _) (in_typed _) (by decide) ?_
   | (refine z_isb .eql ?_; first
   | refine o_eq rfl rfl (by decide) ?_
   | refine o_beq tabOk rfl rfl rfl (by decide) ?_
   | refine o_peq tabOk rfl rfl (by decide) ?_))
   | (refine z_isload ?_; first
   | refine o_loadp tabOk rfl rfl rfl 0 rfl (na_len _) (in_near _) (by decide) ?_
   | refine o_loadp tabOk rfl rfl rfl 1 rfl (na_len _) (in_near _) (by decide) ?_
   | refine o_loadp tabOk rfl rfl rfl 2 rfl (na_len _) (in_near _) (by decide) ?_
   | (refine z_ld1 tabOk rfl rfl ?_; first
   | refine o_loadm tabOk rfl rfl rfl (by repeat' (first | exact List.mem_cons_self | apply List.mem_cons_of_mem)) (by first | exact ba_at _ (by omega) | exact in_k _ | exact in_s _ | exact in_n _ (by omega) | exact in_f _ | exact na_at _ (by omega) | rfl) (by decide) ?_
   | refine o_loads tabOk (by first | assumption | exact Rds.cons _ (by assumption) | exact Rds.cons _ (Rds.cons _ (by assumption)) | exact own_rds 0 rfl | exact own_rds 1 rfl | exact own_rds 2 rfl) rfl rfl rfl (by first | exact ba_at _ (by omega) | exact in_k _ | exact in_s _ | exact in_n _ (by omega) | exact in_f _ | exact na_at _ (by omega) | rfl) (by decide) ?_)
   | (refine z_ldw tabOk rfl rfl ?_; first
   | refine o_loadwm tabOk rfl rfl rfl (by repeat' (first | exact List.mem_cons_self | apply List.mem_cons_of_mem)) (by first | exact ba_len _ _ | exact in_len _ | exact na_len _ | (simp only [ba_len, in_len, na_len]) | rfl) (by decide) ?_))
   | (refine z_isstore ?_; first
   | (refine z_stw rfl ?_; first
   | ((refine z_sti 0 rfl rfl ?_; refine o_storeb0 rfl tabOk rfl rfl rfl (by first | exact ba_len _ _ | exact in_len _ | exact na_len _ | (simp only [ba_len, in_len, na_len]) | rfl) (by first | exact ba_one _ _ | exact in_one _ | exact na_one _ | rfl) (by first | exact ba_len _ _ | exact in_len _ | exact na_len _ | (simp only [ba_len, in_len, na_len]) | rfl) ?_))
   | ((refine z_sti 1 rfl rfl ?_; refine o_storeb1 rfl tabOk rfl rfl rfl (by first | exact ba_len _ _ | exact in_len _ | exact na_len _ | (simp only [ba_len, in_len, na_len]) | rfl) (by first | exact ba_one _ _ | exact in_one _ | exact na_one _ | rfl) (by first | exact ba_len _ _ | exact in_len _ | exact na_len _ | (simp only [ba_len, in_len, na_len]) | rfl) ?_))
   | ((refine z_sti 2 rfl rfl ?_; refine o_storeb2 rfl tabOk rfl rfl rfl (by first | exact ba_len _ _ | exact in_len _ | exact na_len _ | (simp only [ba_len, in_len, na_len]) | rfl) (by first | exact ba_one _ _ | exact in_one _ | exact na_one _ | rfl) (by first | exact ba_len _ _ | exact in_len _ | exact na_len _ | (simp only [ba_len, in_len, na_len]) | rfl) ?_))
   | ((refine z_sti 3 rfl rfl ?_; refine o_storeb3 rfl tabOk rfl rfl rfl (by first | exact ba_len _ _ | exact in_len _ | exact na_len _ | (simp only [ba_len, in_len, na_len]) | rfl) (by first | exact ba_one _ _ | exact in_one _ | exact na_one _ | rfl) (by first | exact ba_len _ _ | exact in_len _ | exact na_len _ | (simp only [ba_len, in_len, na_len]) | rfl) ?_))
   | ((refine z_sti 4 rfl rfl ?_; refine o_storeb4 rfl tabOk rfl rfl rfl (by first | exact ba_len _ _ | exact in_len _ | exact na_len _ | (simp only [ba_len, in_len, na_len]) | rfl) (by first | exact ba_one _ _ | exact in_one _ | exact na_one _ | rfl) (by first | exact ba_len _ _ | exact in_len _ | exact na_len _ | (simp only [ba_len, in_len, na_len]) | rfl) ?_))
   | ((refine z_sti 5 rfl rfl ?_; refine o_storeb5 rfl tabOk rfl rfl rfl (by first | exact ba_len _ _ | exact in_len _ | exact na_len _ | (simp only [ba_len, in_len, na_len]) | rfl) (by first | exact ba_one _ _ | exact in_one _ | exact na_one _ | rfl) (by first | exact ba_len _ _ | exact in_len _ | exact na_len _ | (simp only [ba_len, in_len, na_len]) | rfl) ?_))
   | ((refine z_sti 6 rfl rfl ?_; refine o_storeb6 rfl tabOk rfl rfl rfl (by first | exact ba_len _ _ | exact in_len _ | exact na_len _ | (simp only [ba_len, in_len, na_len]) | rfl) (by first | exact ba_one _ _ | exact in_one _ | exact na_one _ | rfl) (by first | exact ba_len _ _ | exact in_len _ | exact na_len _ | (simp only [ba_len, in_len, na_len]) | rfl) ?_)))
   | (refine z_st1 rfl rfl ?_; first
   | refine o_store rfl tabOk rfl rfl rfl rfl rfl (by first | exact ba_at _ (by omega) | exact in_k _ | exact in_s _ | exact in_n _ (by omega) | exact in_f _ | exact na_at _ (by omega) | rfl) (by first | exact ba_set _ _ _ _ | exact in_set_n _ (by omega) _ | exact in_set_f _ _ | rfl) ?_
   | ((refine z_sti 1 rfl rfl ?_; refine o_store1 rfl tabOk rfl rfl rfl rfl rfl (by first | exact ba_at _ (by omega) | exact in_k _ | exact in_s _ | exact in_n _ (by omega) | exact in_f _ | exact na_at _ (by omega) | rfl) (by first | exact ba_set _ _ _ _ | exact in_set_n _ (by omega) _ | exact in_set_f _ _ | rfl) ?_))
   | ((refine z_sti 2 rfl rfl ?_; refine o_store2 rfl tabOk rfl rfl rfl rfl rfl (by first | exact ba_at _ (by omega) | exact in_k _ | exact in_s _ | exact in_n _ (by omega) | exact in_f _ | exact na_at _ (by omega) | rfl) (by first | exact ba_set _ _ _ _ | exact in_set_n _ (by omega) _ | exact in_set_f _ _ | rfl) ?_))
   | ((refine z_sti 3 rfl rfl ?_; refine o_store3 rfl tabOk rfl rfl rfl rfl rfl (by first | exact ba_at _ (by omega) | exact in_k _ | exact in_s _ | exact in_n _ (by omega) | exact in_f _ | exact na_at _ (by omega) | rfl) (by first | exact ba_set _ _ _ _ | exact in_set_n _ (by omega) _ | exact in_set_f _ _ | rfl) ?_))
   | ((refine z_sti 4 rfl rfl ?_; refine o_store4 rfl tabOk rfl rfl rfl rfl rfl (by first | exact ba_at _ (by omega) | exact in_k _ | exact in_s _ | exact in_n _ (by omega) | exact in_f _ | exact na_at _ (by omega) | rfl) (by first | exact ba_set _ _ _ _ | exact in_set_n _ (by omega) _ | exact in_set_f _ _ | rfl) ?_))
   | ((refine z_sti 5 rfl rfl ?_; refine o_store5 rfl tabOk rfl rfl rfl rfl rfl (by first | exact ba_at _ (by omega) | exact in_k _ | exact in_s _ | exact in_n _ (by omega) | exact in_f _ | exact na_at _ (by omega) | rfl) (by first | exact ba_set _ _ _ _ | exact in_set_n _ (by omega) _ | exact in_set_f _ _ | rfl) ?_))
   | ((refine z_sti 6 rfl rfl ?_; refine o_store6 rfl tabOk rfl rfl rfl rfl rfl (by first | exact ba_at _ (by omega) | exact in_k _ | exact in_s _ | exact in_n _ (by omega) | exact in_f _ | exact na_at _ (by omega) | rfl) (by first | exact ba_set _ _ _ _ | exact in_set_n _ (by omega) _ | exact in_set_f _ _ | rfl) ?_))))
   | (refine z_iscall ?_; first
   | ((refine z_iscallf 18 ?_; refine o_fn rfl Try.func18 rfl rfl rfl (right_fn _) (by decide) ?_))
   | ((refine z_iscallf 16 ?_; refine o_fn rfl Try.func16 rfl rfl rfl (put_fn _ _ _) (by decide) ?_))
   | ((refine z_iscallf 12 ?_; refine o_fn rfl Try.func12 rfl rfl rfl (blocks_fn _ (by omega) (by omega)) (by decide) ?_))
   | ((refine z_iscallf 13 ?_; refine o_fn rfl Try.func13 rfl rfl rfl (all_fn _ (by omega) (by omega)) (by decide) ?_)))
   | (refine z_ispick ?_; first
   | (refine o_pick1 rfl (by first | with_reducible rfl | with_reducible assumption | ((with_reducible refine decide_eq_true ?_); first | with_reducible rfl | with_reducible assumption | omega)) rfl (by decide) ?_)
   | (refine o_pick0 rfl (by first | with_reducible rfl | with_reducible assumption | ((with_reducible refine decide_eq_false ?_); first | with_reducible assumption | omega)) rfl (by decide) ?_)
   | (refine o_pick1 rfl (by first | (simp only [Bool.not_eq_true', decide_eq_false_iff_not]; omega) | (with_reducible assumption) | (rw [decide_eq_false] <;> (first | omega | with_reducible rfl)) | (rw [decide_eq_true] <;> (first | omega | with_reducible rfl)) | (simp; done) | (simp; omega)) rfl (by decide) ?_)
   | (refine o_pick0 rfl (by first | (simp only [Bool.not_eq_false', decide_eq_true_eq]; omega) | (with_reducible assumption) | (rw [decide_eq_false] <;> (first | omega | with_reducible rfl)) | (rw [decide_eq_true] <;> (first | omega | with_reducible rfl)) | (simp; done) | (simp; omega)) rfl (by decide) ?_))
   | (refine z_isix ?_; first
   | refine o_index0 tabOk rfl rfl rfl rfl (by omega) (by omega) (by decide) ?_
   | refine o_index1 tabOk rfl rfl rfl rfl (by omega) (by omega) (by decide) ?_
   | refine o_indexsk1 tabOk rfl rfl rfl rfl (by omega) (by omega) (by decide) ?_
   | refine o_indexsk tabOk rfl rfl rfl rfl (by omega) (by omega) (by decide) ?_
   | refine o_indexs1 tabOk (by first | assumption) rfl rfl rfl rfl (by omega) (by omega) (by decide) ?_)
   | refine o_move rfl (by decide) ?_
   | refine o_assign rfl (by decide) ?_
   | refine o_nil rfl (by decide) ?_
   | refine o_extract rfl rfl (by decide) ?_
   | refine o_not rfl (by decide) ?_
   | refine o_field0 tabOk rfl rfl rfl rfl rfl (by decide) ?_
   | refine o_field tabOk rfl rfl rfl rfl rfl (by decide) ?_
   | refine o_conv tabOk rfl rfl rfl (by decide) ?_))
theorem rblocks_fn (s : Int) : Pf Try.prog 11 [.int .i64 s] (.int .i64 (blk s)) := by
  intro w hw
  refine f_enter Try.func11 rfl Try.ntmps11 rfl hw ?_
  repeat' (first
   | (refine s_is ?_; first
   | (refine s_isagain ?_; first
   | exact c_again (k + 1) ⟨by omega, .inr (by omega)⟩ (by omega) ⟨rfl, rfl, trivial⟩ (fun w h => h))
   | (refine s_isret ?_; first
   | (exact p_r1 rfl (res_t (by show some (Value.int _ _) = some (Value.int _ _); congr 2; unfold blk; split <;> omega))))
   | (refine s_isw ?_; first
   | (refine s_isloop ?_; first
   | refine c_loop (X := Nat) (fun k => k ≤ 40 ∧ (k = 0 ∨ 64 * ((k : Int) - 1) < s)) (fun k => [(0, .int .i64 s), (3, .int .i64 k)]) (fun k => []) (fun k => 40 - k) 0 ⟨by decide, .inl rfl⟩ ⟨rfl, rfl, trivial⟩ (fun w h => h) (fun k hk => ?_))
   | refine c_seq ?_
   | refine c_block ?_
   | refine c_region ?_
   | refine c_mixed mixed (by kernel_rfl) ?_
   | refine c_skip ?_
   | refine c_ret ?_
   | refine c_exit ?_
   | (refine s_iscond ?_; first
   | (refine c_true rfl (by first | with_reducible rfl | with_reducible assumption | ((with_reducible refine decide_eq_true ?_); first | with_reducible rfl | with_reducible assumption | omega)) ?_)
   | (refine c_false rfl (by first | with_reducible rfl | with_reducible assumption | ((with_reducible refine decide_eq_false ?_); first | with_reducible assumption | omega)) ?_)
   | (refine c_true rfl (by first | (simp only [Bool.not_eq_true', decide_eq_false_iff_not]; omega) | (with_reducible assumption) | (rw [decide_eq_false] <;> (first | omega | with_reducible rfl)) | (rw [decide_eq_true] <;> (first | omega | with_reducible rfl)) | (simp; done) | (simp; omega)) ?_)
   | (refine c_false rfl (by first | (simp only [Bool.not_eq_false', decide_eq_true_eq]; omega) | (with_reducible assumption) | (rw [decide_eq_false] <;> (first | omega | with_reducible rfl)) | (rw [decide_eq_true] <;> (first | omega | with_reducible rfl)) | (simp; done) | (simp; omega)) ?_)
   | refine c_cond rfl (fun hc => ?_) (fun hc => ?_)
   | refine c_condb rfl (fun hc => ?_) (fun hc => ?_)))
   | refine x_then ?_
   | refine x_then_ret ?_
   | refine x_then_exit ?_
   | refine x_block _ ?_
   | refine x_block_ret _ ?_
   | refine x_block_exit _ ?_
   | refine x_block_past (by decide) ?_
   | refine z_tailm ?_)
   | (refine z_isg1 ?_; first
   | refine z_skipu (by decide) rfl rfl ?_
   | (refine z_want1 rfl rfl (by first | with_reducible rfl | with_reducible assumption | ((with_reducible refine decide_eq_true ?_); first | with_reducible rfl | with_reducible assumption | omega)) ?_)
   | (refine z_skip1 (by decide) rfl rfl (by first | with_reducible rfl | with_reducible assumption | ((with_reducible refine decide_eq_false ?_); first | with_reducible assumption | omega)) ?_)
   | (refine z_want1 rfl rfl (by first | (simp only [Bool.not_eq_true', decide_eq_false_iff_not]; omega) | (with_reducible assumption) | (rw [decide_eq_false] <;> (first | omega | with_reducible rfl)) | (rw [decide_eq_true] <;> (first | omega | with_reducible rfl)) | (simp; done) | (simp; omega)) ?_)
   | (refine z_skip1 (by decide) rfl rfl (by first | (simp only [Bool.not_eq_false', decide_eq_true_eq]; omega) | (with_reducible assumption) | (rw [decide_eq_false] <;> (first | omega | with_reducible rfl)) | (rw [decide_eq_true] <;> (first | omega | with_reducible rfl)) | (simp; done) | (simp; omega)) ?_)
   | refine z_guard1 (by decide) rfl rfl (fun hc => ?_) (fun hc => ?_)
   | refine z_guardb (by decide) rfl rfl (fun hc => ?_) (fun hc => ?_))
   | (refine z_isnil ?_; first
   | refine z_list ?_
   | refine z_mixed ?_
   | refine z_mono0 ?_
   | refine z_mono1 (by decide) fun g => ?_
   | refine z_mono2 (by decide) (by decide) fun g g' => ?_
   | refine z_mixedx ?_
   | refine z_quiet ?_)
   | (refine z_isop ?_; first
   | refine o_boxa rfl rfl (by decide) fun g => ?_
   | refine o_build0 (t := 34) (v := .agg In.zero.cs.toArray) (fun _ => by kernel_rfl) (by decide) ?_
   | refine o_build0 (t := 28) (v := .agg In.zero.cs.toArray) (fun _ => by kernel_rfl) (by decide) ?_
   | refine o_alloca (e := 31) (vs := ba 64 (fun _ => 0)) rfl (by kernel_rfl) (by decide) fun g => ?_
   | refine o_build0 (t := 31) (v := .agg (ba 64 (fun _ => 0)).toArray) (fun _ => by kernel_rfl) (by decide) ?_
   | refine o_build (t := 26) (v := .agg (na (upd (fun _ => 0) 0 40)).toArray) rfl (fun _ => by kernel_rfl) (by decide) ?_
   | (refine z_isbin ?_; first
   | refine o_eqa cmp34 rfl rfl (in_typed _) (in_typed _) (by decide) ?_
   | refine o_eqa cmp28 rfl rfl (in_typed _) (in_typed _) (by decide) ?_
   | (refine z_isb .add ?_; first
   | refine o_add rfl rfl (by omega) (by omega) (by decide) ?_
   | refine o_addw rfl rfl (by decide) ?_)
   | (refine z_isb .mul ?_; first
   | refine o_mul rfl rfl (by omega) (by omega) (by decide) ?_
   | refine o_mulw rfl rfl (by decide) ?_)
   | (refine z_isb .lss ?_; first
   | refine o_lt rfl rfl (by decide) ?_))
   | (refine z_iscall ?_; first
   | ((refine z_iscallf 18 ?_; refine o_fn rfl Try.func18 rfl rfl rfl (right_fn _) (by decide) ?_))
   | ((refine z_iscallf 16 ?_; refine o_fn rfl Try.func16 rfl rfl rfl (put_fn _ _ _) (by decide) ?_))
   | ((refine z_iscallf 12 ?_; refine o_fn rfl Try.func12 rfl rfl rfl (blocks_fn _ (by omega) (by omega)) (by decide) ?_))
   | ((refine z_iscallf 13 ?_; refine o_fn rfl Try.func13 rfl rfl rfl (all_fn _ (by omega) (by omega)) (by decide) ?_))
   | ((refine z_iscallf 14 ?_; refine o_fn rfl Try.func14 rfl rfl rfl (awake25) (by decide) ?_)))
   | (refine z_ispick ?_; first
   | (refine o_pick1 rfl (by first | with_reducible rfl | with_reducible assumption | ((with_reducible refine decide_eq_true ?_); first | with_reducible rfl | with_reducible assumption | omega)) rfl (by decide) ?_)
   | (refine o_pick0 rfl (by first | with_reducible rfl | with_reducible assumption | ((with_reducible refine decide_eq_false ?_); first | with_reducible assumption | omega)) rfl (by decide) ?_)
   | (refine o_pick1 rfl (by first | (simp only [Bool.not_eq_true', decide_eq_false_iff_not]; omega) | (with_reducible assumption) | (rw [decide_eq_false] <;> (first | omega | with_reducible rfl)) | (rw [decide_eq_true] <;> (first | omega | with_reducible rfl)) | (simp; done) | (simp; omega)) rfl (by decide) ?_)
   | (refine o_pick0 rfl (by first | (simp only [Bool.not_eq_false', decide_eq_true_eq]; omega) | (with_reducible assumption) | (rw [decide_eq_false] <;> (first | omega | with_reducible rfl)) | (rw [decide_eq_true] <;> (first | omega | with_reducible rfl)) | (simp; done) | (simp; omega)) rfl (by decide) ?_))
   | refine o_move rfl (by decide) ?_
   | refine o_assign rfl (by decide) ?_
   | refine o_nil rfl (by decide) ?_
   | refine o_extract rfl rfl (by decide) ?_
   | refine o_not rfl (by decide) ?_
   | refine o_field0 tabOk rfl rfl rfl rfl rfl (by decide) ?_
   | refine o_field tabOk rfl rfl rfl rfl rfl (by decide) ?_
   | refine o_conv tabOk rfl rfl rfl (by decide) ?_))
theorem inodeSizes (s : Int) (h0 : -9223372036854775808 ≤ s) (h1 : s ≤ 9223372036854775807) : Pf Try.prog 3 [.int .i64 s] (.bool true) := by
  intro w hw
  have hb := blk_le s
  have e1 : decide (allB s = if 8 < blk s then blk s + 1 else blk s) = true := by unfold allB; simp
  refine f_enter Try.func3 rfl Try.ntmps3 rfl hw ?_
  by_cases h8 : 8 < blk s
  · have e2 : decide (allB s = blk s + 1) = true := by rw [if_pos h8] at e1; exact e1
    repeat' (first
     | (refine s_is ?_; first
     | (refine s_isret ?_; first
     | exact p_r1 rfl (res_t rfl))
     | (refine s_isw ?_; first
     | refine c_seq ?_
     | refine c_block ?_
     | refine c_region ?_
     | refine c_mixed mixed (by kernel_rfl) ?_
     | refine c_skip ?_
     | refine c_ret ?_
     | refine c_exit ?_
     | (refine s_iscond ?_; first
     | (refine c_true rfl (by first | with_reducible rfl | with_reducible assumption | ((with_reducible refine decide_eq_true ?_); first | with_reducible rfl | with_reducible assumption | omega)) ?_)
     | (refine c_false rfl (by first | with_reducible rfl | with_reducible assumption | ((with_reducible refine decide_eq_false ?_); first | with_reducible assumption | omega)) ?_)
     | (refine c_true rfl (by first | (simp only [Bool.not_eq_true', decide_eq_false_iff_not]; omega) | (with_reducible assumption) | (rw [decide_eq_false] <;> (first | omega | with_reducible rfl)) | (rw [decide_eq_true] <;> (first | omega | with_reducible rfl)) | (simp; done) | (simp; omega)) ?_)
     | (refine c_false rfl (by first | (simp only [Bool.not_eq_false', decide_eq_true_eq]; omega) | (with_reducible assumption) | (rw [decide_eq_false] <;> (first | omega | with_reducible rfl)) | (rw [decide_eq_true] <;> (first | omega | with_reducible rfl)) | (simp; done) | (simp; omega)) ?_)
     | refine c_cond rfl (fun hc => ?_) (fun hc => ?_)
     | refine c_condb rfl (fun hc => ?_) (fun hc => ?_)))
     | refine x_then ?_
     | refine x_then_ret ?_
     | refine x_then_exit ?_
     | refine x_block _ ?_
     | refine x_block_ret _ ?_
     | refine x_block_exit _ ?_
     | refine x_block_past (by decide) ?_
     | refine z_tailm ?_)
     | (refine z_isg1 ?_; first
     | refine z_skipu (by decide) rfl rfl ?_
     | (refine z_want1 rfl rfl (by first | with_reducible rfl | with_reducible assumption | ((with_reducible refine decide_eq_true ?_); first | with_reducible rfl | with_reducible assumption | omega)) ?_)
     | (refine z_skip1 (by decide) rfl rfl (by first | with_reducible rfl | with_reducible assumption | ((with_reducible refine decide_eq_false ?_); first | with_reducible assumption | omega)) ?_)
     | (refine z_want1 rfl rfl (by first | (simp only [Bool.not_eq_true', decide_eq_false_iff_not]; omega) | (with_reducible assumption) | (rw [decide_eq_false] <;> (first | omega | with_reducible rfl)) | (rw [decide_eq_true] <;> (first | omega | with_reducible rfl)) | (simp; done) | (simp; omega)) ?_)
     | (refine z_skip1 (by decide) rfl rfl (by first | (simp only [Bool.not_eq_false', decide_eq_true_eq]; omega) | (with_reducible assumption) | (rw [decide_eq_false] <;> (first | omega | with_reducible rfl)) | (rw [decide_eq_true] <;> (first | omega | with_reducible rfl)) | (simp; done) | (simp; omega)) ?_)
     | refine z_guard1 (by decide) rfl rfl (fun hc => ?_) (fun hc => ?_)
     | refine z_guardb (by decide) rfl rfl (fun hc => ?_) (fun hc => ?_))
     | (refine z_isnil ?_; first
     | refine z_list ?_
     | refine z_mixed ?_
     | refine z_mono0 ?_
     | refine z_mono1 (by decide) fun g => ?_
     | refine z_mono2 (by decide) (by decide) fun g g' => ?_
     | refine z_mixedx ?_
     | refine z_quiet ?_)
     | (refine z_isop ?_; first
     | refine o_boxa rfl rfl (by decide) fun g => ?_
     | refine o_build0 (t := 34) (v := .agg In.zero.cs.toArray) (fun _ => by kernel_rfl) (by decide) ?_
     | refine o_build0 (t := 28) (v := .agg In.zero.cs.toArray) (fun _ => by kernel_rfl) (by decide) ?_
     | refine o_alloca (e := 31) (vs := ba 64 (fun _ => 0)) rfl (by kernel_rfl) (by decide) fun g => ?_
     | refine o_build0 (t := 31) (v := .agg (ba 64 (fun _ => 0)).toArray) (fun _ => by kernel_rfl) (by decide) ?_
     | refine o_build (t := 26) (v := .agg (na (upd (fun _ => 0) 0 40)).toArray) rfl (fun _ => by kernel_rfl) (by decide) ?_
     | (refine z_isbin ?_; first
     | refine o_eqa cmp34 rfl rfl (in_typed _) (in_typed _) (by decide) ?_
     | refine o_eqa cmp28 rfl rfl (in_typed _) (in_typed _) (by decide) ?_
     | (refine z_isb .add ?_; first
     | refine o_add rfl rfl (by omega) (by omega) (by decide) ?_
     | refine o_addw rfl rfl (by decide) ?_)
     | (refine z_isb .eql ?_; first
     | refine o_eq rfl rfl (by decide) ?_
     | refine o_beq tabOk rfl rfl rfl (by decide) ?_
     | refine o_peq tabOk rfl rfl (by decide) ?_)
     | (refine z_isb .gtr ?_; first
     | refine o_gt rfl rfl (by decide) ?_))
     | (refine z_iscall ?_; first
     | ((refine z_iscallf 18 ?_; refine o_fn rfl Try.func18 rfl rfl rfl (right_fn _) (by decide) ?_))
     | ((refine z_iscallf 16 ?_; refine o_fn rfl Try.func16 rfl rfl rfl (put_fn _ _ _) (by decide) ?_))
     | ((refine z_iscallf 12 ?_; refine o_fn rfl Try.func12 rfl rfl rfl (blocks_fn _ (by omega) (by omega)) (by decide) ?_))
     | ((refine z_iscallf 13 ?_; refine o_fn rfl Try.func13 rfl rfl rfl (all_fn _ (by omega) (by omega)) (by decide) ?_))
     | ((refine z_iscallf 14 ?_; refine o_fn rfl Try.func14 rfl rfl rfl (awake25) (by decide) ?_))
     | ((refine z_iscallf 11 ?_; refine o_fn rfl Try.func11 rfl rfl rfl (rblocks_fn _) (by decide) ?_)))
     | (refine z_ispick ?_; first
     | (refine o_pick1 rfl (by first | with_reducible rfl | with_reducible assumption | ((with_reducible refine decide_eq_true ?_); first | with_reducible rfl | with_reducible assumption | omega)) rfl (by decide) ?_)
     | (refine o_pick0 rfl (by first | with_reducible rfl | with_reducible assumption | ((with_reducible refine decide_eq_false ?_); first | with_reducible assumption | omega)) rfl (by decide) ?_)
     | (refine o_pick1 rfl (by first | (simp only [Bool.not_eq_true', decide_eq_false_iff_not]; omega) | (with_reducible assumption) | (rw [decide_eq_false] <;> (first | omega | with_reducible rfl)) | (rw [decide_eq_true] <;> (first | omega | with_reducible rfl)) | (simp; done) | (simp; omega)) rfl (by decide) ?_)
     | (refine o_pick0 rfl (by first | (simp only [Bool.not_eq_false', decide_eq_true_eq]; omega) | (with_reducible assumption) | (rw [decide_eq_false] <;> (first | omega | with_reducible rfl)) | (rw [decide_eq_true] <;> (first | omega | with_reducible rfl)) | (simp; done) | (simp; omega)) rfl (by decide) ?_))
     | refine o_move rfl (by decide) ?_
     | refine o_assign rfl (by decide) ?_
     | refine o_nil rfl (by decide) ?_
     | refine o_extract rfl rfl (by decide) ?_
     | refine o_not rfl (by decide) ?_
     | refine o_field0 tabOk rfl rfl rfl rfl rfl (by decide) ?_
     | refine o_field tabOk rfl rfl rfl rfl rfl (by decide) ?_
     | refine o_conv tabOk rfl rfl rfl (by decide) ?_))
  · have e2 : decide (allB s = blk s) = true := by rw [if_neg h8] at e1; exact e1
    repeat' (first
     | (refine s_is ?_; first
     | (refine s_isret ?_; first
     | exact p_r1 rfl (res_t rfl))
     | (refine s_isw ?_; first
     | refine c_seq ?_
     | refine c_block ?_
     | refine c_region ?_
     | refine c_mixed mixed (by kernel_rfl) ?_
     | refine c_skip ?_
     | refine c_ret ?_
     | refine c_exit ?_
     | (refine s_iscond ?_; first
     | (refine c_true rfl (by first | with_reducible rfl | with_reducible assumption | ((with_reducible refine decide_eq_true ?_); first | with_reducible rfl | with_reducible assumption | omega)) ?_)
     | (refine c_false rfl (by first | with_reducible rfl | with_reducible assumption | ((with_reducible refine decide_eq_false ?_); first | with_reducible assumption | omega)) ?_)
     | (refine c_true rfl (by first | (simp only [Bool.not_eq_true', decide_eq_false_iff_not]; omega) | (with_reducible assumption) | (rw [decide_eq_false] <;> (first | omega | with_reducible rfl)) | (rw [decide_eq_true] <;> (first | omega | with_reducible rfl)) | (simp; done) | (simp; omega)) ?_)
     | (refine c_false rfl (by first | (simp only [Bool.not_eq_false', decide_eq_true_eq]; omega) | (with_reducible assumption) | (rw [decide_eq_false] <;> (first | omega | with_reducible rfl)) | (rw [decide_eq_true] <;> (first | omega | with_reducible rfl)) | (simp; done) | (simp; omega)) ?_)
     | refine c_cond rfl (fun hc => ?_) (fun hc => ?_)
     | refine c_condb rfl (fun hc => ?_) (fun hc => ?_)))
     | refine x_then ?_
     | refine x_then_ret ?_
     | refine x_then_exit ?_
     | refine x_block _ ?_
     | refine x_block_ret _ ?_
     | refine x_block_exit _ ?_
     | refine x_block_past (by decide) ?_
     | refine z_tailm ?_)
     | (refine z_isg1 ?_; first
     | refine z_skipu (by decide) rfl rfl ?_
     | (refine z_want1 rfl rfl (by first | with_reducible rfl | with_reducible assumption | ((with_reducible refine decide_eq_true ?_); first | with_reducible rfl | with_reducible assumption | omega)) ?_)
     | (refine z_skip1 (by decide) rfl rfl (by first | with_reducible rfl | with_reducible assumption | ((with_reducible refine decide_eq_false ?_); first | with_reducible assumption | omega)) ?_)
     | (refine z_want1 rfl rfl (by first | (simp only [Bool.not_eq_true', decide_eq_false_iff_not]; omega) | (with_reducible assumption) | (rw [decide_eq_false] <;> (first | omega | with_reducible rfl)) | (rw [decide_eq_true] <;> (first | omega | with_reducible rfl)) | (simp; done) | (simp; omega)) ?_)
     | (refine z_skip1 (by decide) rfl rfl (by first | (simp only [Bool.not_eq_false', decide_eq_true_eq]; omega) | (with_reducible assumption) | (rw [decide_eq_false] <;> (first | omega | with_reducible rfl)) | (rw [decide_eq_true] <;> (first | omega | with_reducible rfl)) | (simp; done) | (simp; omega)) ?_)
     | refine z_guard1 (by decide) rfl rfl (fun hc => ?_) (fun hc => ?_)
     | refine z_guardb (by decide) rfl rfl (fun hc => ?_) (fun hc => ?_))
     | (refine z_isnil ?_; first
     | refine z_list ?_
     | refine z_mixed ?_
     | refine z_mono0 ?_
     | refine z_mono1 (by decide) fun g => ?_
     | refine z_mono2 (by decide) (by decide) fun g g' => ?_
     | refine z_mixedx ?_
     | refine z_quiet ?_)
     | (refine z_isop ?_; first
     | refine o_boxa rfl rfl (by decide) fun g => ?_
     | refine o_build0 (t := 34) (v := .agg In.zero.cs.toArray) (fun _ => by kernel_rfl) (by decide) ?_
     | refine o_build0 (t := 28) (v := .agg In.zero.cs.toArray) (fun _ => by kernel_rfl) (by decide) ?_
     | refine o_alloca (e := 31) (vs := ba 64 (fun _ => 0)) rfl (by kernel_rfl) (by decide) fun g => ?_
     | refine o_build0 (t := 31) (v := .agg (ba 64 (fun _ => 0)).toArray) (fun _ => by kernel_rfl) (by decide) ?_
     | refine o_build (t := 26) (v := .agg (na (upd (fun _ => 0) 0 40)).toArray) rfl (fun _ => by kernel_rfl) (by decide) ?_
     | (refine z_isbin ?_; first
     | refine o_eqa cmp34 rfl rfl (in_typed _) (in_typed _) (by decide) ?_
     | refine o_eqa cmp28 rfl rfl (in_typed _) (in_typed _) (by decide) ?_
     | (refine z_isb .add ?_; first
     | refine o_add rfl rfl (by omega) (by omega) (by decide) ?_
     | refine o_addw rfl rfl (by decide) ?_)
     | (refine z_isb .eql ?_; first
     | refine o_eq rfl rfl (by decide) ?_
     | refine o_beq tabOk rfl rfl rfl (by decide) ?_
     | refine o_peq tabOk rfl rfl (by decide) ?_)
     | (refine z_isb .gtr ?_; first
     | refine o_gt rfl rfl (by decide) ?_))
     | (refine z_iscall ?_; first
     | ((refine z_iscallf 18 ?_; refine o_fn rfl Try.func18 rfl rfl rfl (right_fn _) (by decide) ?_))
     | ((refine z_iscallf 16 ?_; refine o_fn rfl Try.func16 rfl rfl rfl (put_fn _ _ _) (by decide) ?_))
     | ((refine z_iscallf 12 ?_; refine o_fn rfl Try.func12 rfl rfl rfl (blocks_fn _ (by omega) (by omega)) (by decide) ?_))
     | ((refine z_iscallf 13 ?_; refine o_fn rfl Try.func13 rfl rfl rfl (all_fn _ (by omega) (by omega)) (by decide) ?_))
     | ((refine z_iscallf 14 ?_; refine o_fn rfl Try.func14 rfl rfl rfl (awake25) (by decide) ?_))
     | ((refine z_iscallf 11 ?_; refine o_fn rfl Try.func11 rfl rfl rfl (rblocks_fn _) (by decide) ?_)))
     | (refine z_ispick ?_; first
     | (refine o_pick1 rfl (by first | with_reducible rfl | with_reducible assumption | ((with_reducible refine decide_eq_true ?_); first | with_reducible rfl | with_reducible assumption | omega)) rfl (by decide) ?_)
     | (refine o_pick0 rfl (by first | with_reducible rfl | with_reducible assumption | ((with_reducible refine decide_eq_false ?_); first | with_reducible assumption | omega)) rfl (by decide) ?_)
     | (refine o_pick1 rfl (by first | (simp only [Bool.not_eq_true', decide_eq_false_iff_not]; omega) | (with_reducible assumption) | (rw [decide_eq_false] <;> (first | omega | with_reducible rfl)) | (rw [decide_eq_true] <;> (first | omega | with_reducible rfl)) | (simp; done) | (simp; omega)) rfl (by decide) ?_)
     | (refine o_pick0 rfl (by first | (simp only [Bool.not_eq_false', decide_eq_true_eq]; omega) | (with_reducible assumption) | (rw [decide_eq_false] <;> (first | omega | with_reducible rfl)) | (rw [decide_eq_true] <;> (first | omega | with_reducible rfl)) | (simp; done) | (simp; omega)) rfl (by decide) ?_))
     | refine o_move rfl (by decide) ?_
     | refine o_assign rfl (by decide) ?_
     | refine o_nil rfl (by decide) ?_
     | refine o_extract rfl rfl (by decide) ?_
     | refine o_not rfl (by decide) ?_
     | refine o_field0 tabOk rfl rfl rfl rfl rfl (by decide) ?_
     | refine o_field tabOk rfl rfl rfl rfl rfl (by decide) ?_
     | refine o_conv tabOk rfl rfl rfl (by decide) ?_))
end Go.Proofs.Ytmfnjmmdchlkiaa
