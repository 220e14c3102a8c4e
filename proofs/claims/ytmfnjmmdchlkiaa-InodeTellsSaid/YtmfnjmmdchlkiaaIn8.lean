/-
The document's inode that stands at a place.
-/
import Derived.Test.YtmfnjmmdchlkiaaIn7
namespace Go.Proofs.Ytmfnjmmdchlkiaa
set_option linter.unusedVariables false
set_option linter.unusedSimpArgs false
open Eng
theorem lg_def (d : Nat → Int) (o : Nat) : lg d o = d o + 256 * d (o + 1) := rfl
def rok (d : Nat → Int) (o : Nat) : Bool := right (dec d o) && upTo 32 (fun i => decide (enc (dec d o) i = d (o + i)))
attribute [local irreducible] Eng.Hold Eng.Z Eng.S Eng.cells Eng.old Eng.own ba na In.cs blk lo hi lg numOk upTo inK Eng.eqB right
attribute [local irreducible] encN enc okP put allB daK decN dec encM
set_option maxHeartbeats 8000000 in
theorem decode_fn (d : Nat → Int) (hb : By d) (o : Nat) (ho : o ≤ 32) : Pf Try.prog 22 [.agg (ba 64 d).toArray, .int .i64 o] (.tuple #[.agg (if rok d o = true then dec d o else In.zero).cs.toArray, .bool (rok d o)]) := by
  intro w hw
  have b2 := hb ((o : Int) + 2).toNat
  have b3 := hb ((o : Int) + 3).toNat
  have l1 : d ((o : Int) + 2).toNat + 256 * d ((o : Int) + 3).toNat = lg d (o + 2) := by rw [lg_def, show ((o : Int) + 2).toNat = o + 2 by omega, show ((o : Int) + 3).toNat = o + 2 + 1 by omega]
  refine f_enter Try.func22 rfl Try.ntmps22 rfl hw ?_
  repeat' (first
   | (refine s_is ?_; first
   | (refine c_both0 ⟨[], [6]⟩ (id := 1) mixed (by kernel_rfl) ?_)
   | (refine s_isw ?_; first
   | (refine s_isloop ?_; first
   | ((rename_i g2 g4; refine c_loop (X := Nat) (fun i => i ≤ 8) (fun i => [(1, .int .i64 o), (2, .pointer (some ⟨g2, 0, none⟩)), (4, .pointer (some ⟨g4, 0, none⟩)), (6, .pointer (some ⟨g, 0, none⟩)), (7, .int .i64 i)]) (fun i => [cells g 28 (decN d o i).cs, cells g4 28 In.zero.cs, cells g2 29 (ba 64 d)]) (fun i => 8 - i) 0 (by decide) ⟨rfl, rfl, rfl, rfl, rfl, trivial⟩ (fun w h => by rw [l1, Int.toNat_natCast] at h; rw [← decN_zero]; exact h) (fun i hi => ?_); refine hold ?_)))
   | refine c_seq ?_
   | refine c_block ?_
   | refine c_region ?_
   | refine c_mixed mixed (by kernel_rfl) ?_
   | refine c_skip ?_
   | refine c_ret ?_
   | refine c_exit ?_
   | (refine s_iscond ?_; first
   | (refine c_true rfl (by first | with_reducible rfl | with_reducible assumption | ((with_reducible refine decide_eq_true ?_); first | with_reducible rfl | with_reducible assumption | omega)) ?_)
   | (refine c_false rfl (by first | with_reducible rfl | with_reducible assumption | ((with_reducible refine decide_eq_false ?_); first | with_reducible assumption | omega)) ?_)
   | (refine c_true rfl (by first | (simp only [Bool.not_eq_true', decide_eq_false_iff_not]; omega) | (with_reducible assumption) | (rw [decide_eq_false] <;> (first | omega | with_reducible rfl)) | (rw [decide_eq_true] <;> (first | omega | with_reducible rfl)) | (simp; done) | (simp; omega)) ?_)
   | (refine c_false rfl (by first | (simp only [Bool.not_eq_false', decide_eq_true_eq]; omega) | (with_reducible assumption) | (rw [decide_eq_false] <;> (first | omega | with_reducible rfl)) | (rw [decide_eq_true] <;> (first | omega | with_reducible rfl)) | (simp; done) | (simp; omega)) ?_)
   | refine c_cond rfl (fun hc => ?_) (fun hc => ?_)
   | refine c_condb rfl (fun hc => ?_) (fun hc => ?_)))
   | refine x_then ?_
   | refine x_then_ret ?_
   | refine x_then_exit ?_
   | refine x_block _ ?_
   | refine x_block_ret _ ?_
   | refine x_block_exit _ ?_
   | refine x_block_past (by decide) ?_
   | refine z_tailm ?_)
   | (refine z_isnil ?_; first
   | refine z_list ?_
   | refine z_mixed ?_
   | refine z_mono0 ?_
   | refine z_mono1 (by decide) fun g => ?_
   | refine z_mono2 (by decide) (by decide) fun g g' => ?_
   | refine z_mixedx ?_
   | refine z_quiet ?_)
   | (refine z_isop ?_; first
   | refine o_build (t := 28) rfl (build28 _ _) (by decide) ?_
   | refine m_alloca (e := 28) (vs := In.zero.cs) (by kernel_rfl) ?_
   | refine m_inib tabOk (by decide) rfl (by decide) (fun _ => rfl) rfl (in_len _) (in_one _) (by simp only [in_len]) ?_
   | refine o_boxa rfl rfl (by decide) fun g => ?_
   | refine o_build0 (t := 34) (v := .agg In.zero.cs.toArray) (fun _ => by kernel_rfl) (by decide) ?_
   | refine o_build0 (t := 28) (v := .agg In.zero.cs.toArray) (fun _ => by kernel_rfl) (by decide) ?_
   | refine o_alloca (e := 28) (vs := In.zero.cs) rfl (by kernel_rfl) (by decide) fun g => ?_
   | refine o_alloca (e := 37) (vs := ba 32 (fun _ => 0)) rfl (by kernel_rfl) (by decide) fun g => ?_
   | refine o_convi tabOk rfl rfl rfl (wrap_by (hb _)) (by decide) ?_
   | (refine z_isbin ?_; first
   | refine o_eqa cmp34 rfl rfl (in_typed _) (in_typed _) (by decide) ?_
   | refine o_eqa cmp28 rfl rfl (in_typed _) (in_typed _) (by decide) ?_
   | (refine z_isb .add ?_; first
   | refine o_add rfl rfl (by omega) (by omega) (by decide) ?_
   | refine o_addw rfl rfl (by decide) ?_)
   | (refine z_isb .mul ?_; first
   | refine o_mul rfl rfl (by omega) (by omega) (by decide) ?_
   | refine o_mulw rfl rfl (by decide) ?_)
   | (refine z_isb .neq ?_; first
   | refine o_ne rfl rfl (by decide) ?_
   | refine o_bne tabOk rfl rfl rfl (by decide) ?_
   | refine o_pne tabOk rfl rfl (by decide) ?_)
   | (refine z_isb .lss ?_; first
   | refine o_lt rfl rfl (by decide) ?_))
   | (refine z_isload ?_; first
   | refine o_loadp tabOk rfl rfl rfl 0 rfl (na_len _) (in_near _) (by decide) ?_
   | refine o_loadp tabOk rfl rfl rfl 1 rfl (na_len _) (in_near _) (by decide) ?_
   | refine o_loadp tabOk rfl rfl rfl 2 rfl (na_len _) (in_near _) (by decide) ?_
   | (refine z_ld1 tabOk rfl rfl ?_; first
   | refine o_loadm tabOk rfl rfl rfl (by repeat' (first | exact List.mem_cons_self | apply List.mem_cons_of_mem)) (by first | exact ba_at _ (by omega) | exact in_k _ | exact in_s _ | exact in_n _ (by omega) | exact in_f _ | exact na_at _ (by omega) | rfl) (by decide) ?_
   | refine o_loads tabOk (by first | assumption | exact Rds.cons _ (by assumption) | exact Rds.cons _ (Rds.cons _ (by assumption)) | exact own_rds 0 rfl | exact own_rds 1 rfl | exact own_rds 2 rfl) rfl rfl rfl (by first | exact ba_at _ (by omega) | exact in_k _ | exact in_s _ | exact in_n _ (by omega) | exact in_f _ | exact na_at _ (by omega) | rfl) (by decide) ?_)
   | (refine z_ldw tabOk rfl rfl ?_; first
   | refine o_loadwm tabOk rfl rfl rfl (by repeat' (first | exact List.mem_cons_self | apply List.mem_cons_of_mem)) (by first | exact ba_len _ _ | exact in_len _ | exact na_len _ | (simp only [ba_len, in_len, na_len]) | rfl) (by decide) ?_))
   | (refine z_isstore ?_; first
   | (refine z_stw rfl ?_; first
   | ((refine z_sti 0 rfl rfl ?_; refine o_storeb0 rfl tabOk rfl rfl rfl (by first | exact ba_len _ _ | exact in_len _ | exact na_len _ | (simp only [ba_len, in_len, na_len]) | rfl) (by first | exact ba_one _ _ | exact in_one _ | exact na_one _ | rfl) (by first | exact ba_len _ _ | exact in_len _ | exact na_len _ | (simp only [ba_len, in_len, na_len]) | rfl) ?_))
   | ((refine z_sti 1 rfl rfl ?_; refine o_storeb1 rfl tabOk rfl rfl rfl (by first | exact ba_len _ _ | exact in_len _ | exact na_len _ | (simp only [ba_len, in_len, na_len]) | rfl) (by first | exact ba_one _ _ | exact in_one _ | exact na_one _ | rfl) (by first | exact ba_len _ _ | exact in_len _ | exact na_len _ | (simp only [ba_len, in_len, na_len]) | rfl) ?_))
   | ((refine z_sti 2 rfl rfl ?_; refine o_storeb2 rfl tabOk rfl rfl rfl (by first | exact ba_len _ _ | exact in_len _ | exact na_len _ | (simp only [ba_len, in_len, na_len]) | rfl) (by first | exact ba_one _ _ | exact in_one _ | exact na_one _ | rfl) (by first | exact ba_len _ _ | exact in_len _ | exact na_len _ | (simp only [ba_len, in_len, na_len]) | rfl) ?_))
   | ((refine z_sti 3 rfl rfl ?_; refine o_storeb3 rfl tabOk rfl rfl rfl (by first | exact ba_len _ _ | exact in_len _ | exact na_len _ | (simp only [ba_len, in_len, na_len]) | rfl) (by first | exact ba_one _ _ | exact in_one _ | exact na_one _ | rfl) (by first | exact ba_len _ _ | exact in_len _ | exact na_len _ | (simp only [ba_len, in_len, na_len]) | rfl) ?_))
   | ((refine z_sti 4 rfl rfl ?_; refine o_storeb4 rfl tabOk rfl rfl rfl (by first | exact ba_len _ _ | exact in_len _ | exact na_len _ | (simp only [ba_len, in_len, na_len]) | rfl) (by first | exact ba_one _ _ | exact in_one _ | exact na_one _ | rfl) (by first | exact ba_len _ _ | exact in_len _ | exact na_len _ | (simp only [ba_len, in_len, na_len]) | rfl) ?_))
   | ((refine z_sti 5 rfl rfl ?_; refine o_storeb5 rfl tabOk rfl rfl rfl (by first | exact ba_len _ _ | exact in_len _ | exact na_len _ | (simp only [ba_len, in_len, na_len]) | rfl) (by first | exact ba_one _ _ | exact in_one _ | exact na_one _ | rfl) (by first | exact ba_len _ _ | exact in_len _ | exact na_len _ | (simp only [ba_len, in_len, na_len]) | rfl) ?_))
   | ((refine z_sti 6 rfl rfl ?_; refine o_storeb6 rfl tabOk rfl rfl rfl (by first | exact ba_len _ _ | exact in_len _ | exact na_len _ | (simp only [ba_len, in_len, na_len]) | rfl) (by first | exact ba_one _ _ | exact in_one _ | exact na_one _ | rfl) (by first | exact ba_len _ _ | exact in_len _ | exact na_len _ | (simp only [ba_len, in_len, na_len]) | rfl) ?_)))
   | (refine z_st1 rfl rfl ?_; first
   | refine o_store rfl tabOk rfl rfl rfl rfl rfl (by first | exact ba_at _ (by omega) | exact in_k _ | exact in_s _ | exact in_n _ (by omega) | exact in_f _ | exact na_at _ (by omega) | rfl) (by first | exact hset | exact ba_set _ _ _ _ | exact in_set_n _ (by omega) _ | exact in_set_f _ _ | rfl) ?_
   | ((refine z_sti 1 rfl rfl ?_; refine o_store1 rfl tabOk rfl rfl rfl rfl rfl (by first | exact ba_at _ (by omega) | exact in_k _ | exact in_s _ | exact in_n _ (by omega) | exact in_f _ | exact na_at _ (by omega) | rfl) (by first | exact hset | exact ba_set _ _ _ _ | exact in_set_n _ (by omega) _ | exact in_set_f _ _ | rfl) ?_))
   | ((refine z_sti 2 rfl rfl ?_; refine o_store2 rfl tabOk rfl rfl rfl rfl rfl (by first | exact ba_at _ (by omega) | exact in_k _ | exact in_s _ | exact in_n _ (by omega) | exact in_f _ | exact na_at _ (by omega) | rfl) (by first | exact hset | exact ba_set _ _ _ _ | exact in_set_n _ (by omega) _ | exact in_set_f _ _ | rfl) ?_))
   | ((refine z_sti 3 rfl rfl ?_; refine o_store3 rfl tabOk rfl rfl rfl rfl rfl (by first | exact ba_at _ (by omega) | exact in_k _ | exact in_s _ | exact in_n _ (by omega) | exact in_f _ | exact na_at _ (by omega) | rfl) (by first | exact hset | exact ba_set _ _ _ _ | exact in_set_n _ (by omega) _ | exact in_set_f _ _ | rfl) ?_))
   | ((refine z_sti 4 rfl rfl ?_; refine o_store4 rfl tabOk rfl rfl rfl rfl rfl (by first | exact ba_at _ (by omega) | exact in_k _ | exact in_s _ | exact in_n _ (by omega) | exact in_f _ | exact na_at _ (by omega) | rfl) (by first | exact hset | exact ba_set _ _ _ _ | exact in_set_n _ (by omega) _ | exact in_set_f _ _ | rfl) ?_))
   | ((refine z_sti 5 rfl rfl ?_; refine o_store5 rfl tabOk rfl rfl rfl rfl rfl (by first | exact ba_at _ (by omega) | exact in_k _ | exact in_s _ | exact in_n _ (by omega) | exact in_f _ | exact na_at _ (by omega) | rfl) (by first | exact hset | exact ba_set _ _ _ _ | exact in_set_n _ (by omega) _ | exact in_set_f _ _ | rfl) ?_))
   | ((refine z_sti 6 rfl rfl ?_; refine o_store6 rfl tabOk rfl rfl rfl rfl rfl (by first | exact ba_at _ (by omega) | exact in_k _ | exact in_s _ | exact in_n _ (by omega) | exact in_f _ | exact na_at _ (by omega) | rfl) (by first | exact hset | exact ba_set _ _ _ _ | exact in_set_n _ (by omega) _ | exact in_set_f _ _ | rfl) ?_))))
   | (refine z_iscall ?_; first
   | ((refine z_iscallf 19 ?_; refine o_fn rfl Try.func19 rfl rfl rfl (rright_fn _) (by decide) ?_)))
   | (refine z_isix ?_; first
   | refine o_index0 tabOk rfl rfl rfl rfl (by omega) (by omega) (by decide) ?_
   | refine o_index1 tabOk rfl rfl rfl rfl (by omega) (by omega) (by decide) ?_
   | refine o_indexsk1 tabOk rfl rfl rfl rfl (by omega) (by omega) (by decide) ?_
   | refine o_indexsk tabOk rfl rfl rfl rfl (by omega) (by omega) (by decide) ?_
   | refine o_indexs1 tabOk (by first | assumption) rfl rfl rfl rfl (by omega) (by omega) (by decide) ?_)
   | refine o_move rfl (by decide) ?_
   | refine o_assign rfl (by decide) ?_
   | refine o_nil rfl (by decide) ?_
   | refine o_extract rfl rfl (by decide) ?_
   | refine o_not rfl (by decide) ?_
   | refine o_field0 tabOk rfl rfl rfl rfl rfl (by decide) ?_
   | refine o_field tabOk rfl rfl rfl rfl rfl (by decide) ?_
   | refine o_conv tabOk rfl rfl rfl (by decide) ?_))
  refine Hold.go ?_
  by_cases hi8 : i < 8
  · have b4 := hb ((o : Int) + 4 + 2 * (i : Int)).toNat
    have b5 := hb ((o : Int) + 5 + 2 * (i : Int)).toNat
    have l2 : d ((o : Int) + 4 + 2 * (i : Int)).toNat + 256 * d ((o : Int) + 5 + 2 * (i : Int)).toNat = lg d (o + (4 + 2 * i)) := by rw [lg_def, show ((o : Int) + 4 + 2 * (i : Int)).toNat = o + (4 + 2 * i) by omega, show ((o : Int) + 5 + 2 * (i : Int)).toNat = o + (4 + 2 * i) + 1 by omega]
    repeat' (first
     | (refine s_is ?_; first
     | (refine s_isagain ?_; first
     | (exact c_again (i + 1) (by omega) (by omega) ⟨rfl, rfl, rfl, rfl, rfl, trivial⟩ (fun w h => by rw [l2, Int.toNat_natCast] at h; rw [← decN_succ]; exact h)))
     | (refine s_isw ?_; first
     | refine c_seq ?_
     | refine c_block ?_
     | refine c_region ?_
     | refine c_mixed mixed (by kernel_rfl) ?_
     | refine c_skip ?_
     | refine c_ret ?_
     | refine c_exit ?_
     | (refine s_iscond ?_; first
     | (refine c_true rfl (by first | with_reducible rfl | with_reducible assumption | ((with_reducible refine decide_eq_true ?_); first | with_reducible rfl | with_reducible assumption | omega)) ?_)
     | (refine c_false rfl (by first | with_reducible rfl | with_reducible assumption | ((with_reducible refine decide_eq_false ?_); first | with_reducible assumption | omega)) ?_)
     | (refine c_true rfl (by first | (simp only [Bool.not_eq_true', decide_eq_false_iff_not]; omega) | (with_reducible assumption) | (rw [decide_eq_false] <;> (first | omega | with_reducible rfl)) | (rw [decide_eq_true] <;> (first | omega | with_reducible rfl)) | (simp; done) | (simp; omega)) ?_)
     | (refine c_false rfl (by first | (simp only [Bool.not_eq_false', decide_eq_true_eq]; omega) | (with_reducible assumption) | (rw [decide_eq_false] <;> (first | omega | with_reducible rfl)) | (rw [decide_eq_true] <;> (first | omega | with_reducible rfl)) | (simp; done) | (simp; omega)) ?_)
     | refine c_cond rfl (fun hc => ?_) (fun hc => ?_)
     | refine c_condb rfl (fun hc => ?_) (fun hc => ?_)))
     | refine x_then ?_
     | refine x_then_ret ?_
     | refine x_then_exit ?_
     | refine x_block _ ?_
     | refine x_block_ret _ ?_
     | refine x_block_exit _ ?_
     | refine x_block_past (by decide) ?_
     | refine z_tailm ?_)
     | (refine z_isnil ?_; first
     | refine z_list ?_
     | refine z_mixed ?_
     | refine z_mono0 ?_
     | refine z_mono1 (by decide) fun g => ?_
     | refine z_mono2 (by decide) (by decide) fun g g' => ?_
     | refine z_mixedx ?_
     | refine z_quiet ?_)
     | (refine z_isop ?_; first
     | refine o_boxa rfl rfl (by decide) fun g => ?_
     | refine o_build0 (t := 34) (v := .agg In.zero.cs.toArray) (fun _ => by kernel_rfl) (by decide) ?_
     | refine o_build0 (t := 28) (v := .agg In.zero.cs.toArray) (fun _ => by kernel_rfl) (by decide) ?_
     | refine o_alloca (e := 28) (vs := In.zero.cs) rfl (by kernel_rfl) (by decide) fun g => ?_
     | refine o_alloca (e := 37) (vs := ba 32 (fun _ => 0)) rfl (by kernel_rfl) (by decide) fun g => ?_
     | refine o_convi tabOk rfl rfl rfl (wrap_by (hb _)) (by decide) ?_
     | (refine z_isbin ?_; first
     | refine o_eqa cmp34 rfl rfl (in_typed _) (in_typed _) (by decide) ?_
     | refine o_eqa cmp28 rfl rfl (in_typed _) (in_typed _) (by decide) ?_
     | (refine z_isb .add ?_; first
     | refine o_add rfl rfl (by omega) (by omega) (by decide) ?_
     | refine o_addw rfl rfl (by decide) ?_)
     | (refine z_isb .mul ?_; first
     | refine o_mul rfl rfl (by omega) (by omega) (by decide) ?_
     | refine o_mulw rfl rfl (by decide) ?_)
     | (refine z_isb .neq ?_; first
     | refine o_ne rfl rfl (by decide) ?_
     | refine o_bne tabOk rfl rfl rfl (by decide) ?_
     | refine o_pne tabOk rfl rfl (by decide) ?_)
     | (refine z_isb .lss ?_; first
     | refine o_lt rfl rfl (by decide) ?_))
     | (refine z_isload ?_; first
     | refine o_loadp tabOk rfl rfl rfl 0 rfl (na_len _) (in_near _) (by decide) ?_
     | refine o_loadp tabOk rfl rfl rfl 1 rfl (na_len _) (in_near _) (by decide) ?_
     | refine o_loadp tabOk rfl rfl rfl 2 rfl (na_len _) (in_near _) (by decide) ?_
     | (refine z_ld1 tabOk rfl rfl ?_; first
     | refine o_loadm tabOk rfl rfl rfl (by repeat' (first | exact List.mem_cons_self | apply List.mem_cons_of_mem)) (by first | exact ba_at _ (by omega) | exact in_k _ | exact in_s _ | exact in_n _ (by omega) | exact in_f _ | exact na_at _ (by omega) | rfl) (by decide) ?_
     | refine o_loads tabOk (by first | assumption | exact Rds.cons _ (by assumption) | exact Rds.cons _ (Rds.cons _ (by assumption)) | exact own_rds 0 rfl | exact own_rds 1 rfl | exact own_rds 2 rfl) rfl rfl rfl (by first | exact ba_at _ (by omega) | exact in_k _ | exact in_s _ | exact in_n _ (by omega) | exact in_f _ | exact na_at _ (by omega) | rfl) (by decide) ?_)
     | (refine z_ldw tabOk rfl rfl ?_; first
     | refine o_loadwm tabOk rfl rfl rfl (by repeat' (first | exact List.mem_cons_self | apply List.mem_cons_of_mem)) (by first | exact ba_len _ _ | exact in_len _ | exact na_len _ | (simp only [ba_len, in_len, na_len]) | rfl) (by decide) ?_))
     | (refine z_isstore ?_; first
     | (refine z_stw rfl ?_; first
     | ((refine z_sti 0 rfl rfl ?_; refine o_storeb0 rfl tabOk rfl rfl rfl (by first | exact ba_len _ _ | exact in_len _ | exact na_len _ | (simp only [ba_len, in_len, na_len]) | rfl) (by first | exact ba_one _ _ | exact in_one _ | exact na_one _ | rfl) (by first | exact ba_len _ _ | exact in_len _ | exact na_len _ | (simp only [ba_len, in_len, na_len]) | rfl) ?_))
     | ((refine z_sti 1 rfl rfl ?_; refine o_storeb1 rfl tabOk rfl rfl rfl (by first | exact ba_len _ _ | exact in_len _ | exact na_len _ | (simp only [ba_len, in_len, na_len]) | rfl) (by first | exact ba_one _ _ | exact in_one _ | exact na_one _ | rfl) (by first | exact ba_len _ _ | exact in_len _ | exact na_len _ | (simp only [ba_len, in_len, na_len]) | rfl) ?_))
     | ((refine z_sti 2 rfl rfl ?_; refine o_storeb2 rfl tabOk rfl rfl rfl (by first | exact ba_len _ _ | exact in_len _ | exact na_len _ | (simp only [ba_len, in_len, na_len]) | rfl) (by first | exact ba_one _ _ | exact in_one _ | exact na_one _ | rfl) (by first | exact ba_len _ _ | exact in_len _ | exact na_len _ | (simp only [ba_len, in_len, na_len]) | rfl) ?_))
     | ((refine z_sti 3 rfl rfl ?_; refine o_storeb3 rfl tabOk rfl rfl rfl (by first | exact ba_len _ _ | exact in_len _ | exact na_len _ | (simp only [ba_len, in_len, na_len]) | rfl) (by first | exact ba_one _ _ | exact in_one _ | exact na_one _ | rfl) (by first | exact ba_len _ _ | exact in_len _ | exact na_len _ | (simp only [ba_len, in_len, na_len]) | rfl) ?_))
     | ((refine z_sti 4 rfl rfl ?_; refine o_storeb4 rfl tabOk rfl rfl rfl (by first | exact ba_len _ _ | exact in_len _ | exact na_len _ | (simp only [ba_len, in_len, na_len]) | rfl) (by first | exact ba_one _ _ | exact in_one _ | exact na_one _ | rfl) (by first | exact ba_len _ _ | exact in_len _ | exact na_len _ | (simp only [ba_len, in_len, na_len]) | rfl) ?_))
     | ((refine z_sti 5 rfl rfl ?_; refine o_storeb5 rfl tabOk rfl rfl rfl (by first | exact ba_len _ _ | exact in_len _ | exact na_len _ | (simp only [ba_len, in_len, na_len]) | rfl) (by first | exact ba_one _ _ | exact in_one _ | exact na_one _ | rfl) (by first | exact ba_len _ _ | exact in_len _ | exact na_len _ | (simp only [ba_len, in_len, na_len]) | rfl) ?_))
     | ((refine z_sti 6 rfl rfl ?_; refine o_storeb6 rfl tabOk rfl rfl rfl (by first | exact ba_len _ _ | exact in_len _ | exact na_len _ | (simp only [ba_len, in_len, na_len]) | rfl) (by first | exact ba_one _ _ | exact in_one _ | exact na_one _ | rfl) (by first | exact ba_len _ _ | exact in_len _ | exact na_len _ | (simp only [ba_len, in_len, na_len]) | rfl) ?_)))
     | (refine z_st1 rfl rfl ?_; first
     | refine o_store rfl tabOk rfl rfl rfl rfl rfl (by first | exact ba_at _ (by omega) | exact in_k _ | exact in_s _ | exact in_n _ (by omega) | exact in_f _ | exact na_at _ (by omega) | rfl) (by first | exact hset | exact ba_set _ _ _ _ | exact in_set_n _ (by omega) _ | exact in_set_f _ _ | rfl) ?_
     | ((refine z_sti 1 rfl rfl ?_; refine o_store1 rfl tabOk rfl rfl rfl rfl rfl (by first | exact ba_at _ (by omega) | exact in_k _ | exact in_s _ | exact in_n _ (by omega) | exact in_f _ | exact na_at _ (by omega) | rfl) (by first | exact hset | exact ba_set _ _ _ _ | exact in_set_n _ (by omega) _ | exact in_set_f _ _ | rfl) ?_))
     | ((refine z_sti 2 rfl rfl ?_; refine o_store2 rfl tabOk rfl rfl rfl rfl rfl (by first | exact ba_at _ (by omega) | exact in_k _ | exact in_s _ | exact in_n _ (by omega) | exact in_f _ | exact na_at _ (by omega) | rfl) (by first | exact hset | exact ba_set _ _ _ _ | exact in_set_n _ (by omega) _ | exact in_set_f _ _ | rfl) ?_))
     | ((refine z_sti 3 rfl rfl ?_; refine o_store3 rfl tabOk rfl rfl rfl rfl rfl (by first | exact ba_at _ (by omega) | exact in_k _ | exact in_s _ | exact in_n _ (by omega) | exact in_f _ | exact na_at _ (by omega) | rfl) (by first | exact hset | exact ba_set _ _ _ _ | exact in_set_n _ (by omega) _ | exact in_set_f _ _ | rfl) ?_))
     | ((refine z_sti 4 rfl rfl ?_; refine o_store4 rfl tabOk rfl rfl rfl rfl rfl (by first | exact ba_at _ (by omega) | exact in_k _ | exact in_s _ | exact in_n _ (by omega) | exact in_f _ | exact na_at _ (by omega) | rfl) (by first | exact hset | exact ba_set _ _ _ _ | exact in_set_n _ (by omega) _ | exact in_set_f _ _ | rfl) ?_))
     | ((refine z_sti 5 rfl rfl ?_; refine o_store5 rfl tabOk rfl rfl rfl rfl rfl (by first | exact ba_at _ (by omega) | exact in_k _ | exact in_s _ | exact in_n _ (by omega) | exact in_f _ | exact na_at _ (by omega) | rfl) (by first | exact hset | exact ba_set _ _ _ _ | exact in_set_n _ (by omega) _ | exact in_set_f _ _ | rfl) ?_))
     | ((refine z_sti 6 rfl rfl ?_; refine o_store6 rfl tabOk rfl rfl rfl rfl rfl (by first | exact ba_at _ (by omega) | exact in_k _ | exact in_s _ | exact in_n _ (by omega) | exact in_f _ | exact na_at _ (by omega) | rfl) (by first | exact hset | exact ba_set _ _ _ _ | exact in_set_n _ (by omega) _ | exact in_set_f _ _ | rfl) ?_))))
     | (refine z_iscall ?_; first
     | ((refine z_iscallf 19 ?_; refine o_fn rfl Try.func19 rfl rfl rfl (rright_fn _) (by decide) ?_)))
     | (refine z_isix ?_; first
     | refine o_index0 tabOk rfl rfl rfl rfl (by omega) (by omega) (by decide) ?_
     | refine o_index1 tabOk rfl rfl rfl rfl (by omega) (by omega) (by decide) ?_
     | refine o_indexsk1 tabOk rfl rfl rfl rfl (by omega) (by omega) (by decide) ?_
     | refine o_indexsk tabOk rfl rfl rfl rfl (by omega) (by omega) (by decide) ?_
     | refine o_indexs1 tabOk (by first | assumption) rfl rfl rfl rfl (by omega) (by omega) (by decide) ?_)
     | refine o_move rfl (by decide) ?_
     | refine o_assign rfl (by decide) ?_
     | refine o_nil rfl (by decide) ?_
     | refine o_extract rfl rfl (by decide) ?_
     | refine o_not rfl (by decide) ?_
     | refine o_field0 tabOk rfl rfl rfl rfl rfl (by decide) ?_
     | refine o_field tabOk rfl rfl rfl rfl rfl (by decide) ?_
     | refine o_conv tabOk rfl rfl rfl (by decide) ?_))
  · obtain rfl : i = 8 := by omega
    have b4 := hb ((o : Int) + 20).toNat
    have b5 := hb ((o : Int) + 21).toNat
    have l2 : d ((o : Int) + 20).toNat + 256 * d ((o : Int) + 21).toNat = lg d (o + 20) := by rw [lg_def, show ((o : Int) + 20).toNat = o + 20 by omega, show ((o : Int) + 21).toNat = o + 20 + 1 by omega]
    have hset : (decN d o 8).cs.set 10 (.int .i64 (d ((o : Int) + 20).toNat + 256 * d ((o : Int) + 21).toNat)) = (dec d o).cs := by rw [l2, in_set_f]; exact congrArg In.cs (decN_end d o)
    rcases Bool.eq_false_or_eq_true (right (dec d o)) with hr | hr
    · have hnn := right_nn hr
      have g1 : (!right (dec d o)) = false := by rw [hr]; rfl
      repeat' (first
       | (refine s_is ?_; first
       | (refine s_isw ?_; first
       | (refine s_isloop ?_; first
       | ((rename_i g6; refine c_loop (X := Nat) (fun i => i ≤ 32 ∧ ∀ j, j < i → enc (dec d o) j = d (o + j)) (fun i => [(1, .int .i64 o), (2, .pointer (some ⟨g2, 0, none⟩)), (4, .pointer (some ⟨g4, 0, none⟩)), (6, .pointer (some ⟨g6, 0, none⟩)), (8, .pointer (some ⟨g, 0, none⟩)), (9, .int .i64 i)]) (fun i => [cells g 37 (ba 32 (enc (dec d o))), cells g6 28 (dec d o).cs, cells g4 28 In.zero.cs, cells g2 29 (ba 64 d)]) (fun i => 32 - i) 0 ⟨by decide, fun j hj => by omega⟩ ⟨rfl, rfl, rfl, rfl, rfl, rfl, trivial⟩ (fun w h => h) (fun i hi => ?_); refine hold ?_)))
       | refine c_seq ?_
       | refine c_block ?_
       | refine c_region ?_
       | refine c_mixed mixed (by kernel_rfl) ?_
       | refine c_skip ?_
       | refine c_ret ?_
       | refine c_exit ?_
       | (refine s_iscond ?_; first
       | (refine c_true rfl (by first | with_reducible rfl | with_reducible assumption | ((with_reducible refine decide_eq_true ?_); first | with_reducible rfl | with_reducible assumption | omega)) ?_)
       | (refine c_false rfl (by first | with_reducible rfl | with_reducible assumption | ((with_reducible refine decide_eq_false ?_); first | with_reducible assumption | omega)) ?_)
       | (refine c_true rfl (by first | (simp only [Bool.not_eq_true', decide_eq_false_iff_not]; omega) | (with_reducible assumption) | (rw [decide_eq_false] <;> (first | omega | with_reducible rfl)) | (rw [decide_eq_true] <;> (first | omega | with_reducible rfl)) | (simp; done) | (simp; omega)) ?_)
       | (refine c_false rfl (by first | (simp only [Bool.not_eq_false', decide_eq_true_eq]; omega) | (with_reducible assumption) | (rw [decide_eq_false] <;> (first | omega | with_reducible rfl)) | (rw [decide_eq_true] <;> (first | omega | with_reducible rfl)) | (simp; done) | (simp; omega)) ?_)
       | refine c_cond rfl (fun hc => ?_) (fun hc => ?_)
       | refine c_condb rfl (fun hc => ?_) (fun hc => ?_)))
       | refine x_then ?_
       | refine x_then_ret ?_
       | refine x_then_exit ?_
       | refine x_block _ ?_
       | refine x_block_ret _ ?_
       | refine x_block_exit _ ?_
       | refine x_block_past (by decide) ?_
       | refine z_tailm ?_)
       | (refine z_isnil ?_; first
       | refine z_list ?_
       | refine z_mixed ?_
       | refine z_mono0 ?_
       | refine z_mono1 (by decide) fun g => ?_
       | refine z_mono2 (by decide) (by decide) fun g g' => ?_
       | refine z_mixedx ?_
       | refine z_quiet ?_)
       | (refine z_isop ?_; first
       | refine o_boxa rfl rfl (by decide) fun g => ?_
       | refine o_build0 (t := 34) (v := .agg In.zero.cs.toArray) (fun _ => by kernel_rfl) (by decide) ?_
       | refine o_build0 (t := 28) (v := .agg In.zero.cs.toArray) (fun _ => by kernel_rfl) (by decide) ?_
       | refine o_alloca (e := 28) (vs := In.zero.cs) rfl (by kernel_rfl) (by decide) fun g => ?_
       | refine o_alloca (e := 37) (vs := ba 32 (fun _ => 0)) rfl (by kernel_rfl) (by decide) fun g => ?_
       | refine o_convi tabOk rfl rfl rfl (wrap_by (hb _)) (by decide) ?_
       | (refine z_isbin ?_; first
       | refine o_eqa cmp34 rfl rfl (in_typed _) (in_typed _) (by decide) ?_
       | refine o_eqa cmp28 rfl rfl (in_typed _) (in_typed _) (by decide) ?_
       | (refine z_isb .add ?_; first
       | refine o_add rfl rfl (by omega) (by omega) (by decide) ?_
       | refine o_addw rfl rfl (by decide) ?_)
       | (refine z_isb .mul ?_; first
       | refine o_mul rfl rfl (by omega) (by omega) (by decide) ?_
       | refine o_mulw rfl rfl (by decide) ?_)
       | (refine z_isb .neq ?_; first
       | refine o_ne rfl rfl (by decide) ?_
       | refine o_bne tabOk rfl rfl rfl (by decide) ?_
       | refine o_pne tabOk rfl rfl (by decide) ?_)
       | (refine z_isb .lss ?_; first
       | refine o_lt rfl rfl (by decide) ?_))
       | (refine z_isload ?_; first
       | refine o_loadp tabOk rfl rfl rfl 0 rfl (na_len _) (in_near _) (by decide) ?_
       | refine o_loadp tabOk rfl rfl rfl 1 rfl (na_len _) (in_near _) (by decide) ?_
       | refine o_loadp tabOk rfl rfl rfl 2 rfl (na_len _) (in_near _) (by decide) ?_
       | (refine z_ld1 tabOk rfl rfl ?_; first
       | refine o_loadm tabOk rfl rfl rfl (by repeat' (first | exact List.mem_cons_self | apply List.mem_cons_of_mem)) (by first | exact ba_at _ (by omega) | exact in_k _ | exact in_s _ | exact in_n _ (by omega) | exact in_f _ | exact na_at _ (by omega) | rfl) (by decide) ?_
       | refine o_loads tabOk (by first | assumption | exact Rds.cons _ (by assumption) | exact Rds.cons _ (Rds.cons _ (by assumption)) | exact own_rds 0 rfl | exact own_rds 1 rfl | exact own_rds 2 rfl) rfl rfl rfl (by first | exact ba_at _ (by omega) | exact in_k _ | exact in_s _ | exact in_n _ (by omega) | exact in_f _ | exact na_at _ (by omega) | rfl) (by decide) ?_)
       | (refine z_ldw tabOk rfl rfl ?_; first
       | refine o_loadwm tabOk rfl rfl rfl (by repeat' (first | exact List.mem_cons_self | apply List.mem_cons_of_mem)) (by first | exact ba_len _ _ | exact in_len _ | exact na_len _ | (simp only [ba_len, in_len, na_len]) | rfl) (by decide) ?_))
       | (refine z_isstore ?_; first
       | (refine z_stw rfl ?_; first
       | ((refine z_sti 0 rfl rfl ?_; refine o_storeb0 rfl tabOk rfl rfl rfl (by first | exact ba_len _ _ | exact in_len _ | exact na_len _ | (simp only [ba_len, in_len, na_len]) | rfl) (by first | exact ba_one _ _ | exact in_one _ | exact na_one _ | rfl) (by first | exact ba_len _ _ | exact in_len _ | exact na_len _ | (simp only [ba_len, in_len, na_len]) | rfl) ?_))
       | ((refine z_sti 1 rfl rfl ?_; refine o_storeb1 rfl tabOk rfl rfl rfl (by first | exact ba_len _ _ | exact in_len _ | exact na_len _ | (simp only [ba_len, in_len, na_len]) | rfl) (by first | exact ba_one _ _ | exact in_one _ | exact na_one _ | rfl) (by first | exact ba_len _ _ | exact in_len _ | exact na_len _ | (simp only [ba_len, in_len, na_len]) | rfl) ?_))
       | ((refine z_sti 2 rfl rfl ?_; refine o_storeb2 rfl tabOk rfl rfl rfl (by first | exact ba_len _ _ | exact in_len _ | exact na_len _ | (simp only [ba_len, in_len, na_len]) | rfl) (by first | exact ba_one _ _ | exact in_one _ | exact na_one _ | rfl) (by first | exact ba_len _ _ | exact in_len _ | exact na_len _ | (simp only [ba_len, in_len, na_len]) | rfl) ?_))
       | ((refine z_sti 3 rfl rfl ?_; refine o_storeb3 rfl tabOk rfl rfl rfl (by first | exact ba_len _ _ | exact in_len _ | exact na_len _ | (simp only [ba_len, in_len, na_len]) | rfl) (by first | exact ba_one _ _ | exact in_one _ | exact na_one _ | rfl) (by first | exact ba_len _ _ | exact in_len _ | exact na_len _ | (simp only [ba_len, in_len, na_len]) | rfl) ?_))
       | ((refine z_sti 4 rfl rfl ?_; refine o_storeb4 rfl tabOk rfl rfl rfl (by first | exact ba_len _ _ | exact in_len _ | exact na_len _ | (simp only [ba_len, in_len, na_len]) | rfl) (by first | exact ba_one _ _ | exact in_one _ | exact na_one _ | rfl) (by first | exact ba_len _ _ | exact in_len _ | exact na_len _ | (simp only [ba_len, in_len, na_len]) | rfl) ?_))
       | ((refine z_sti 5 rfl rfl ?_; refine o_storeb5 rfl tabOk rfl rfl rfl (by first | exact ba_len _ _ | exact in_len _ | exact na_len _ | (simp only [ba_len, in_len, na_len]) | rfl) (by first | exact ba_one _ _ | exact in_one _ | exact na_one _ | rfl) (by first | exact ba_len _ _ | exact in_len _ | exact na_len _ | (simp only [ba_len, in_len, na_len]) | rfl) ?_))
       | ((refine z_sti 6 rfl rfl ?_; refine o_storeb6 rfl tabOk rfl rfl rfl (by first | exact ba_len _ _ | exact in_len _ | exact na_len _ | (simp only [ba_len, in_len, na_len]) | rfl) (by first | exact ba_one _ _ | exact in_one _ | exact na_one _ | rfl) (by first | exact ba_len _ _ | exact in_len _ | exact na_len _ | (simp only [ba_len, in_len, na_len]) | rfl) ?_)))
       | (refine z_st1 rfl rfl ?_; first
       | refine o_store rfl tabOk rfl rfl rfl rfl rfl (by first | exact ba_at _ (by omega) | exact in_k _ | exact in_s _ | exact in_n _ (by omega) | exact in_f _ | exact na_at _ (by omega) | rfl) (by first | exact hset | exact ba_set _ _ _ _ | exact in_set_n _ (by omega) _ | exact in_set_f _ _ | rfl) ?_
       | ((refine z_sti 1 rfl rfl ?_; refine o_store1 rfl tabOk rfl rfl rfl rfl rfl (by first | exact ba_at _ (by omega) | exact in_k _ | exact in_s _ | exact in_n _ (by omega) | exact in_f _ | exact na_at _ (by omega) | rfl) (by first | exact hset | exact ba_set _ _ _ _ | exact in_set_n _ (by omega) _ | exact in_set_f _ _ | rfl) ?_))
       | ((refine z_sti 2 rfl rfl ?_; refine o_store2 rfl tabOk rfl rfl rfl rfl rfl (by first | exact ba_at _ (by omega) | exact in_k _ | exact in_s _ | exact in_n _ (by omega) | exact in_f _ | exact na_at _ (by omega) | rfl) (by first | exact hset | exact ba_set _ _ _ _ | exact in_set_n _ (by omega) _ | exact in_set_f _ _ | rfl) ?_))
       | ((refine z_sti 3 rfl rfl ?_; refine o_store3 rfl tabOk rfl rfl rfl rfl rfl (by first | exact ba_at _ (by omega) | exact in_k _ | exact in_s _ | exact in_n _ (by omega) | exact in_f _ | exact na_at _ (by omega) | rfl) (by first | exact hset | exact ba_set _ _ _ _ | exact in_set_n _ (by omega) _ | exact in_set_f _ _ | rfl) ?_))
       | ((refine z_sti 4 rfl rfl ?_; refine o_store4 rfl tabOk rfl rfl rfl rfl rfl (by first | exact ba_at _ (by omega) | exact in_k _ | exact in_s _ | exact in_n _ (by omega) | exact in_f _ | exact na_at _ (by omega) | rfl) (by first | exact hset | exact ba_set _ _ _ _ | exact in_set_n _ (by omega) _ | exact in_set_f _ _ | rfl) ?_))
       | ((refine z_sti 5 rfl rfl ?_; refine o_store5 rfl tabOk rfl rfl rfl rfl rfl (by first | exact ba_at _ (by omega) | exact in_k _ | exact in_s _ | exact in_n _ (by omega) | exact in_f _ | exact na_at _ (by omega) | rfl) (by first | exact hset | exact ba_set _ _ _ _ | exact in_set_n _ (by omega) _ | exact in_set_f _ _ | rfl) ?_))
       | ((refine z_sti 6 rfl rfl ?_; refine o_store6 rfl tabOk rfl rfl rfl rfl rfl (by first | exact ba_at _ (by omega) | exact in_k _ | exact in_s _ | exact in_n _ (by omega) | exact in_f _ | exact na_at _ (by omega) | rfl) (by first | exact hset | exact ba_set _ _ _ _ | exact in_set_n _ (by omega) _ | exact in_set_f _ _ | rfl) ?_))))
       | (refine z_iscall ?_; first
       | ((refine z_iscallf 20 ?_; refine o_fn rfl Try.func20 rfl rfl rfl (encode_fn _ hnn) (by decide) ?_))
       | ((refine z_iscallf 19 ?_; refine o_fn rfl Try.func19 rfl rfl rfl (rright_fn _) (by decide) ?_)))
       | (refine z_isix ?_; first
       | refine o_index0 tabOk rfl rfl rfl rfl (by omega) (by omega) (by decide) ?_
       | refine o_index1 tabOk rfl rfl rfl rfl (by omega) (by omega) (by decide) ?_
       | refine o_indexsk1 tabOk rfl rfl rfl rfl (by omega) (by omega) (by decide) ?_
       | refine o_indexsk tabOk rfl rfl rfl rfl (by omega) (by omega) (by decide) ?_
       | refine o_indexs1 tabOk (by first | assumption) rfl rfl rfl rfl (by omega) (by omega) (by decide) ?_)
       | refine o_move rfl (by decide) ?_
       | refine o_assign rfl (by decide) ?_
       | refine o_nil rfl (by decide) ?_
       | refine o_extract rfl rfl (by decide) ?_
       | refine o_not rfl (by decide) ?_
       | refine o_field0 tabOk rfl rfl rfl rfl rfl (by decide) ?_
       | refine o_field tabOk rfl rfl rfl rfl rfl (by decide) ?_
       | refine o_conv tabOk rfl rfl rfl (by decide) ?_))
      refine Hold.go ?_
      obtain ⟨hi1, hi2⟩ := hi
      by_cases h32 : i < 32
      · have e0 : ((o : Int) + (i : Int)).toNat = o + i := by omega
        by_cases he : enc (dec d o) i = d (o + i)
        · have e1 : decide (enc (dec d o) ((i : Int)).toNat ≠ d ((o : Int) + (i : Int)).toNat) = false := by rw [e0, Int.toNat_natCast]; simp [he]
          repeat' (first
           | (refine s_is ?_; first
           | (refine s_isagain ?_; first
           | exact c_again (i + 1) ⟨by omega, step_ok hi2 he⟩ (by omega) ⟨rfl, rfl, rfl, rfl, rfl, rfl, trivial⟩ (fun w h => h))
           | (refine s_isw ?_; first
           | refine c_seq ?_
           | refine c_block ?_
           | refine c_region ?_
           | refine c_mixed mixed (by kernel_rfl) ?_
           | refine c_skip ?_
           | refine c_ret ?_
           | refine c_exit ?_
           | (refine s_iscond ?_; first
           | (refine c_true rfl (by first | with_reducible rfl | with_reducible assumption | ((with_reducible refine decide_eq_true ?_); first | with_reducible rfl | with_reducible assumption | omega)) ?_)
           | (refine c_false rfl (by first | with_reducible rfl | with_reducible assumption | ((with_reducible refine decide_eq_false ?_); first | with_reducible assumption | omega)) ?_)
           | (refine c_true rfl (by first | (simp only [Bool.not_eq_true', decide_eq_false_iff_not]; omega) | (with_reducible assumption) | (rw [decide_eq_false] <;> (first | omega | with_reducible rfl)) | (rw [decide_eq_true] <;> (first | omega | with_reducible rfl)) | (simp; done) | (simp; omega)) ?_)
           | (refine c_false rfl (by first | (simp only [Bool.not_eq_false', decide_eq_true_eq]; omega) | (with_reducible assumption) | (rw [decide_eq_false] <;> (first | omega | with_reducible rfl)) | (rw [decide_eq_true] <;> (first | omega | with_reducible rfl)) | (simp; done) | (simp; omega)) ?_)
           | refine c_cond rfl (fun hc => ?_) (fun hc => ?_)
           | refine c_condb rfl (fun hc => ?_) (fun hc => ?_)))
           | refine x_then ?_
           | refine x_then_ret ?_
           | refine x_then_exit ?_
           | refine x_block _ ?_
           | refine x_block_ret _ ?_
           | refine x_block_exit _ ?_
           | refine x_block_past (by decide) ?_
           | refine z_tailm ?_)
           | (refine z_isnil ?_; first
           | refine z_list ?_
           | refine z_mixed ?_
           | refine z_mono0 ?_
           | refine z_mono1 (by decide) fun g => ?_
           | refine z_mono2 (by decide) (by decide) fun g g' => ?_
           | refine z_mixedx ?_
           | refine z_quiet ?_)
           | (refine z_isop ?_; first
           | refine o_boxa rfl rfl (by decide) fun g => ?_
           | refine o_build0 (t := 34) (v := .agg In.zero.cs.toArray) (fun _ => by kernel_rfl) (by decide) ?_
           | refine o_build0 (t := 28) (v := .agg In.zero.cs.toArray) (fun _ => by kernel_rfl) (by decide) ?_
           | refine o_alloca (e := 28) (vs := In.zero.cs) rfl (by kernel_rfl) (by decide) fun g => ?_
           | refine o_alloca (e := 37) (vs := ba 32 (fun _ => 0)) rfl (by kernel_rfl) (by decide) fun g => ?_
           | refine o_convi tabOk rfl rfl rfl (wrap_by (hb _)) (by decide) ?_
           | (refine z_isbin ?_; first
           | refine o_eqa cmp34 rfl rfl (in_typed _) (in_typed _) (by decide) ?_
           | refine o_eqa cmp28 rfl rfl (in_typed _) (in_typed _) (by decide) ?_
           | (refine z_isb .add ?_; first
           | refine o_add rfl rfl (by omega) (by omega) (by decide) ?_
           | refine o_addw rfl rfl (by decide) ?_)
           | (refine z_isb .mul ?_; first
           | refine o_mul rfl rfl (by omega) (by omega) (by decide) ?_
           | refine o_mulw rfl rfl (by decide) ?_)
           | (refine z_isb .neq ?_; first
           | refine o_ne rfl rfl (by decide) ?_
           | refine o_bne tabOk rfl rfl rfl (by decide) ?_
           | refine o_pne tabOk rfl rfl (by decide) ?_)
           | (refine z_isb .lss ?_; first
           | refine o_lt rfl rfl (by decide) ?_))
           | (refine z_isload ?_; first
           | refine o_loadp tabOk rfl rfl rfl 0 rfl (na_len _) (in_near _) (by decide) ?_
           | refine o_loadp tabOk rfl rfl rfl 1 rfl (na_len _) (in_near _) (by decide) ?_
           | refine o_loadp tabOk rfl rfl rfl 2 rfl (na_len _) (in_near _) (by decide) ?_
           | (refine z_ld1 tabOk rfl rfl ?_; first
           | refine o_loadm tabOk rfl rfl rfl (by repeat' (first | exact List.mem_cons_self | apply List.mem_cons_of_mem)) (by first | exact ba_at _ (by omega) | exact in_k _ | exact in_s _ | exact in_n _ (by omega) | exact in_f _ | exact na_at _ (by omega) | rfl) (by decide) ?_
           | refine o_loads tabOk (by first | assumption | exact Rds.cons _ (by assumption) | exact Rds.cons _ (Rds.cons _ (by assumption)) | exact own_rds 0 rfl | exact own_rds 1 rfl | exact own_rds 2 rfl) rfl rfl rfl (by first | exact ba_at _ (by omega) | exact in_k _ | exact in_s _ | exact in_n _ (by omega) | exact in_f _ | exact na_at _ (by omega) | rfl) (by decide) ?_)
           | (refine z_ldw tabOk rfl rfl ?_; first
           | refine o_loadwm tabOk rfl rfl rfl (by repeat' (first | exact List.mem_cons_self | apply List.mem_cons_of_mem)) (by first | exact ba_len _ _ | exact in_len _ | exact na_len _ | (simp only [ba_len, in_len, na_len]) | rfl) (by decide) ?_))
           | (refine z_isstore ?_; first
           | (refine z_stw rfl ?_; first
           | ((refine z_sti 0 rfl rfl ?_; refine o_storeb0 rfl tabOk rfl rfl rfl (by first | exact ba_len _ _ | exact in_len _ | exact na_len _ | (simp only [ba_len, in_len, na_len]) | rfl) (by first | exact ba_one _ _ | exact in_one _ | exact na_one _ | rfl) (by first | exact ba_len _ _ | exact in_len _ | exact na_len _ | (simp only [ba_len, in_len, na_len]) | rfl) ?_))
           | ((refine z_sti 1 rfl rfl ?_; refine o_storeb1 rfl tabOk rfl rfl rfl (by first | exact ba_len _ _ | exact in_len _ | exact na_len _ | (simp only [ba_len, in_len, na_len]) | rfl) (by first | exact ba_one _ _ | exact in_one _ | exact na_one _ | rfl) (by first | exact ba_len _ _ | exact in_len _ | exact na_len _ | (simp only [ba_len, in_len, na_len]) | rfl) ?_))
           | ((refine z_sti 2 rfl rfl ?_; refine o_storeb2 rfl tabOk rfl rfl rfl (by first | exact ba_len _ _ | exact in_len _ | exact na_len _ | (simp only [ba_len, in_len, na_len]) | rfl) (by first | exact ba_one _ _ | exact in_one _ | exact na_one _ | rfl) (by first | exact ba_len _ _ | exact in_len _ | exact na_len _ | (simp only [ba_len, in_len, na_len]) | rfl) ?_))
           | ((refine z_sti 3 rfl rfl ?_; refine o_storeb3 rfl tabOk rfl rfl rfl (by first | exact ba_len _ _ | exact in_len _ | exact na_len _ | (simp only [ba_len, in_len, na_len]) | rfl) (by first | exact ba_one _ _ | exact in_one _ | exact na_one _ | rfl) (by first | exact ba_len _ _ | exact in_len _ | exact na_len _ | (simp only [ba_len, in_len, na_len]) | rfl) ?_))
           | ((refine z_sti 4 rfl rfl ?_; refine o_storeb4 rfl tabOk rfl rfl rfl (by first | exact ba_len _ _ | exact in_len _ | exact na_len _ | (simp only [ba_len, in_len, na_len]) | rfl) (by first | exact ba_one _ _ | exact in_one _ | exact na_one _ | rfl) (by first | exact ba_len _ _ | exact in_len _ | exact na_len _ | (simp only [ba_len, in_len, na_len]) | rfl) ?_))
           | ((refine z_sti 5 rfl rfl ?_; refine o_storeb5 rfl tabOk rfl rfl rfl (by first | exact ba_len _ _ | exact in_len _ | exact na_len _ | (simp only [ba_len, in_len, na_len]) | rfl) (by first | exact ba_one _ _ | exact in_one _ | exact na_one _ | rfl) (by first | exact ba_len _ _ | exact in_len _ | exact na_len _ | (simp only [ba_len, in_len, na_len]) | rfl) ?_))
           | ((refine z_sti 6 rfl rfl ?_; refine o_storeb6 rfl tabOk rfl rfl rfl (by first | exact ba_len _ _ | exact in_len _ | exact na_len _ | (simp only [ba_len, in_len, na_len]) | rfl) (by first | exact ba_one _ _ | exact in_one _ | exact na_one _ | rfl) (by first | exact ba_len _ _ | exact in_len _ | exact na_len _ | (simp only [ba_len, in_len, na_len]) | rfl) ?_)))
           | (refine z_st1 rfl rfl ?_; first
           | refine o_store rfl tabOk rfl rfl rfl rfl rfl (by first | exact ba_at _ (by omega) | exact in_k _ | exact in_s _ | exact in_n _ (by omega) | exact in_f _ | exact na_at _ (by omega) | rfl) (by first | exact hset | exact ba_set _ _ _ _ | exact in_set_n _ (by omega) _ | exact in_set_f _ _ | rfl) ?_
           | ((refine z_sti 1 rfl rfl ?_; refine o_store1 rfl tabOk rfl rfl rfl rfl rfl (by first | exact ba_at _ (by omega) | exact in_k _ | exact in_s _ | exact in_n _ (by omega) | exact in_f _ | exact na_at _ (by omega) | rfl) (by first | exact hset | exact ba_set _ _ _ _ | exact in_set_n _ (by omega) _ | exact in_set_f _ _ | rfl) ?_))
           | ((refine z_sti 2 rfl rfl ?_; refine o_store2 rfl tabOk rfl rfl rfl rfl rfl (by first | exact ba_at _ (by omega) | exact in_k _ | exact in_s _ | exact in_n _ (by omega) | exact in_f _ | exact na_at _ (by omega) | rfl) (by first | exact hset | exact ba_set _ _ _ _ | exact in_set_n _ (by omega) _ | exact in_set_f _ _ | rfl) ?_))
           | ((refine z_sti 3 rfl rfl ?_; refine o_store3 rfl tabOk rfl rfl rfl rfl rfl (by first | exact ba_at _ (by omega) | exact in_k _ | exact in_s _ | exact in_n _ (by omega) | exact in_f _ | exact na_at _ (by omega) | rfl) (by first | exact hset | exact ba_set _ _ _ _ | exact in_set_n _ (by omega) _ | exact in_set_f _ _ | rfl) ?_))
           | ((refine z_sti 4 rfl rfl ?_; refine o_store4 rfl tabOk rfl rfl rfl rfl rfl (by first | exact ba_at _ (by omega) | exact in_k _ | exact in_s _ | exact in_n _ (by omega) | exact in_f _ | exact na_at _ (by omega) | rfl) (by first | exact hset | exact ba_set _ _ _ _ | exact in_set_n _ (by omega) _ | exact in_set_f _ _ | rfl) ?_))
           | ((refine z_sti 5 rfl rfl ?_; refine o_store5 rfl tabOk rfl rfl rfl rfl rfl (by first | exact ba_at _ (by omega) | exact in_k _ | exact in_s _ | exact in_n _ (by omega) | exact in_f _ | exact na_at _ (by omega) | rfl) (by first | exact hset | exact ba_set _ _ _ _ | exact in_set_n _ (by omega) _ | exact in_set_f _ _ | rfl) ?_))
           | ((refine z_sti 6 rfl rfl ?_; refine o_store6 rfl tabOk rfl rfl rfl rfl rfl (by first | exact ba_at _ (by omega) | exact in_k _ | exact in_s _ | exact in_n _ (by omega) | exact in_f _ | exact na_at _ (by omega) | rfl) (by first | exact hset | exact ba_set _ _ _ _ | exact in_set_n _ (by omega) _ | exact in_set_f _ _ | rfl) ?_))))
           | (refine z_iscall ?_; first
           | ((refine z_iscallf 19 ?_; refine o_fn rfl Try.func19 rfl rfl rfl (rright_fn _) (by decide) ?_)))
           | (refine z_isix ?_; first
           | refine o_index0 tabOk rfl rfl rfl rfl (by omega) (by omega) (by decide) ?_
           | refine o_index1 tabOk rfl rfl rfl rfl (by omega) (by omega) (by decide) ?_
           | refine o_indexsk1 tabOk rfl rfl rfl rfl (by omega) (by omega) (by decide) ?_
           | refine o_indexsk tabOk rfl rfl rfl rfl (by omega) (by omega) (by decide) ?_
           | refine o_indexs1 tabOk (by first | assumption) rfl rfl rfl rfl (by omega) (by omega) (by decide) ?_)
           | refine o_move rfl (by decide) ?_
           | refine o_assign rfl (by decide) ?_
           | refine o_nil rfl (by decide) ?_
           | refine o_extract rfl rfl (by decide) ?_
           | refine o_not rfl (by decide) ?_
           | refine o_field0 tabOk rfl rfl rfl rfl rfl (by decide) ?_
           | refine o_field tabOk rfl rfl rfl rfl rfl (by decide) ?_
           | refine o_conv tabOk rfl rfl rfl (by decide) ?_))
        · have e1 : decide (enc (dec d o) ((i : Int)).toNat ≠ d ((o : Int) + (i : Int)).toNat) = true := by rw [e0, Int.toNat_natCast]; simp [he]
          have hk : rok d o = false := by
            unfold rok
            rw [upTo_no h32 (by simp [he]), Bool.and_false]
          rw [if_neg (by rw [hk]; simp), hk]
          repeat' (first
           | (refine s_is ?_; first
           | (refine s_isret ?_; first
           | exact p_r2 rfl (res_c tabOk rfl rfl rfl 2 rfl (in_len _)) (res_t rfl) rfl)
           | (refine s_isw ?_; first
           | refine c_seq ?_
           | refine c_block ?_
           | refine c_region ?_
           | refine c_mixed mixed (by kernel_rfl) ?_
           | refine c_skip ?_
           | refine c_ret ?_
           | refine c_exit ?_
           | (refine s_iscond ?_; first
           | (refine c_true rfl (by first | with_reducible rfl | with_reducible assumption | ((with_reducible refine decide_eq_true ?_); first | with_reducible rfl | with_reducible assumption | omega)) ?_)
           | (refine c_false rfl (by first | with_reducible rfl | with_reducible assumption | ((with_reducible refine decide_eq_false ?_); first | with_reducible assumption | omega)) ?_)
           | (refine c_true rfl (by first | (simp only [Bool.not_eq_true', decide_eq_false_iff_not]; omega) | (with_reducible assumption) | (rw [decide_eq_false] <;> (first | omega | with_reducible rfl)) | (rw [decide_eq_true] <;> (first | omega | with_reducible rfl)) | (simp; done) | (simp; omega)) ?_)
           | (refine c_false rfl (by first | (simp only [Bool.not_eq_false', decide_eq_true_eq]; omega) | (with_reducible assumption) | (rw [decide_eq_false] <;> (first | omega | with_reducible rfl)) | (rw [decide_eq_true] <;> (first | omega | with_reducible rfl)) | (simp; done) | (simp; omega)) ?_)
           | refine c_cond rfl (fun hc => ?_) (fun hc => ?_)
           | refine c_condb rfl (fun hc => ?_) (fun hc => ?_)))
           | refine x_then ?_
           | refine x_then_ret ?_
           | refine x_then_exit ?_
           | refine x_block _ ?_
           | refine x_block_ret _ ?_
           | refine x_block_exit _ ?_
           | refine x_block_past (by decide) ?_
           | refine z_tailm ?_)
           | (refine z_isnil ?_; first
           | refine z_list ?_
           | refine z_mixed ?_
           | refine z_mono0 ?_
           | refine z_mono1 (by decide) fun g => ?_
           | refine z_mono2 (by decide) (by decide) fun g g' => ?_
           | refine z_mixedx ?_
           | refine z_quiet ?_)
           | (refine z_isop ?_; first
           | refine o_boxa rfl rfl (by decide) fun g => ?_
           | refine o_build0 (t := 34) (v := .agg In.zero.cs.toArray) (fun _ => by kernel_rfl) (by decide) ?_
           | refine o_build0 (t := 28) (v := .agg In.zero.cs.toArray) (fun _ => by kernel_rfl) (by decide) ?_
           | refine o_alloca (e := 28) (vs := In.zero.cs) rfl (by kernel_rfl) (by decide) fun g => ?_
           | refine o_alloca (e := 37) (vs := ba 32 (fun _ => 0)) rfl (by kernel_rfl) (by decide) fun g => ?_
           | refine o_convi tabOk rfl rfl rfl (wrap_by (hb _)) (by decide) ?_
           | (refine z_isbin ?_; first
           | refine o_eqa cmp34 rfl rfl (in_typed _) (in_typed _) (by decide) ?_
           | refine o_eqa cmp28 rfl rfl (in_typed _) (in_typed _) (by decide) ?_
           | (refine z_isb .add ?_; first
           | refine o_add rfl rfl (by omega) (by omega) (by decide) ?_
           | refine o_addw rfl rfl (by decide) ?_)
           | (refine z_isb .mul ?_; first
           | refine o_mul rfl rfl (by omega) (by omega) (by decide) ?_
           | refine o_mulw rfl rfl (by decide) ?_)
           | (refine z_isb .neq ?_; first
           | refine o_ne rfl rfl (by decide) ?_
           | refine o_bne tabOk rfl rfl rfl (by decide) ?_
           | refine o_pne tabOk rfl rfl (by decide) ?_)
           | (refine z_isb .lss ?_; first
           | refine o_lt rfl rfl (by decide) ?_))
           | (refine z_isload ?_; first
           | refine o_loadp tabOk rfl rfl rfl 0 rfl (na_len _) (in_near _) (by decide) ?_
           | refine o_loadp tabOk rfl rfl rfl 1 rfl (na_len _) (in_near _) (by decide) ?_
           | refine o_loadp tabOk rfl rfl rfl 2 rfl (na_len _) (in_near _) (by decide) ?_
           | (refine z_ld1 tabOk rfl rfl ?_; first
           | refine o_loadm tabOk rfl rfl rfl (by repeat' (first | exact List.mem_cons_self | apply List.mem_cons_of_mem)) (by first | exact ba_at _ (by omega) | exact in_k _ | exact in_s _ | exact in_n _ (by omega) | exact in_f _ | exact na_at _ (by omega) | rfl) (by decide) ?_
           | refine o_loads tabOk (by first | assumption | exact Rds.cons _ (by assumption) | exact Rds.cons _ (Rds.cons _ (by assumption)) | exact own_rds 0 rfl | exact own_rds 1 rfl | exact own_rds 2 rfl) rfl rfl rfl (by first | exact ba_at _ (by omega) | exact in_k _ | exact in_s _ | exact in_n _ (by omega) | exact in_f _ | exact na_at _ (by omega) | rfl) (by decide) ?_)
           | (refine z_ldw tabOk rfl rfl ?_; first
           | refine o_loadwm tabOk rfl rfl rfl (by repeat' (first | exact List.mem_cons_self | apply List.mem_cons_of_mem)) (by first | exact ba_len _ _ | exact in_len _ | exact na_len _ | (simp only [ba_len, in_len, na_len]) | rfl) (by decide) ?_))
           | (refine z_isstore ?_; first
           | (refine z_stw rfl ?_; first
           | ((refine z_sti 0 rfl rfl ?_; refine o_storeb0 rfl tabOk rfl rfl rfl (by first | exact ba_len _ _ | exact in_len _ | exact na_len _ | (simp only [ba_len, in_len, na_len]) | rfl) (by first | exact ba_one _ _ | exact in_one _ | exact na_one _ | rfl) (by first | exact ba_len _ _ | exact in_len _ | exact na_len _ | (simp only [ba_len, in_len, na_len]) | rfl) ?_))
           | ((refine z_sti 1 rfl rfl ?_; refine o_storeb1 rfl tabOk rfl rfl rfl (by first | exact ba_len _ _ | exact in_len _ | exact na_len _ | (simp only [ba_len, in_len, na_len]) | rfl) (by first | exact ba_one _ _ | exact in_one _ | exact na_one _ | rfl) (by first | exact ba_len _ _ | exact in_len _ | exact na_len _ | (simp only [ba_len, in_len, na_len]) | rfl) ?_))
           | ((refine z_sti 2 rfl rfl ?_; refine o_storeb2 rfl tabOk rfl rfl rfl (by first | exact ba_len _ _ | exact in_len _ | exact na_len _ | (simp only [ba_len, in_len, na_len]) | rfl) (by first | exact ba_one _ _ | exact in_one _ | exact na_one _ | rfl) (by first | exact ba_len _ _ | exact in_len _ | exact na_len _ | (simp only [ba_len, in_len, na_len]) | rfl) ?_))
           | ((refine z_sti 3 rfl rfl ?_; refine o_storeb3 rfl tabOk rfl rfl rfl (by first | exact ba_len _ _ | exact in_len _ | exact na_len _ | (simp only [ba_len, in_len, na_len]) | rfl) (by first | exact ba_one _ _ | exact in_one _ | exact na_one _ | rfl) (by first | exact ba_len _ _ | exact in_len _ | exact na_len _ | (simp only [ba_len, in_len, na_len]) | rfl) ?_))
           | ((refine z_sti 4 rfl rfl ?_; refine o_storeb4 rfl tabOk rfl rfl rfl (by first | exact ba_len _ _ | exact in_len _ | exact na_len _ | (simp only [ba_len, in_len, na_len]) | rfl) (by first | exact ba_one _ _ | exact in_one _ | exact na_one _ | rfl) (by first | exact ba_len _ _ | exact in_len _ | exact na_len _ | (simp only [ba_len, in_len, na_len]) | rfl) ?_))
           | ((refine z_sti 5 rfl rfl ?_; refine o_storeb5 rfl tabOk rfl rfl rfl (by first | exact ba_len _ _ | exact in_len _ | exact na_len _ | (simp only [ba_len, in_len, na_len]) | rfl) (by first | exact ba_one _ _ | exact in_one _ | exact na_one _ | rfl) (by first | exact ba_len _ _ | exact in_len _ | exact na_len _ | (simp only [ba_len, in_len, na_len]) | rfl) ?_))
           | ((refine z_sti 6 rfl rfl ?_; refine o_storeb6 rfl tabOk rfl rfl rfl (by first | exact ba_len _ _ | exact in_len _ | exact na_len _ | (simp only [ba_len, in_len, na_len]) | rfl) (by first | exact ba_one _ _ | exact in_one _ | exact na_one _ | rfl) (by first | exact ba_len _ _ | exact in_len _ | exact na_len _ | (simp only [ba_len, in_len, na_len]) | rfl) ?_)))
           | (refine z_st1 rfl rfl ?_; first
           | refine o_store rfl tabOk rfl rfl rfl rfl rfl (by first | exact ba_at _ (by omega) | exact in_k _ | exact in_s _ | exact in_n _ (by omega) | exact in_f _ | exact na_at _ (by omega) | rfl) (by first | exact hset | exact ba_set _ _ _ _ | exact in_set_n _ (by omega) _ | exact in_set_f _ _ | rfl) ?_
           | ((refine z_sti 1 rfl rfl ?_; refine o_store1 rfl tabOk rfl rfl rfl rfl rfl (by first | exact ba_at _ (by omega) | exact in_k _ | exact in_s _ | exact in_n _ (by omega) | exact in_f _ | exact na_at _ (by omega) | rfl) (by first | exact hset | exact ba_set _ _ _ _ | exact in_set_n _ (by omega) _ | exact in_set_f _ _ | rfl) ?_))
           | ((refine z_sti 2 rfl rfl ?_; refine o_store2 rfl tabOk rfl rfl rfl rfl rfl (by first | exact ba_at _ (by omega) | exact in_k _ | exact in_s _ | exact in_n _ (by omega) | exact in_f _ | exact na_at _ (by omega) | rfl) (by first | exact hset | exact ba_set _ _ _ _ | exact in_set_n _ (by omega) _ | exact in_set_f _ _ | rfl) ?_))
           | ((refine z_sti 3 rfl rfl ?_; refine o_store3 rfl tabOk rfl rfl rfl rfl rfl (by first | exact ba_at _ (by omega) | exact in_k _ | exact in_s _ | exact in_n _ (by omega) | exact in_f _ | exact na_at _ (by omega) | rfl) (by first | exact hset | exact ba_set _ _ _ _ | exact in_set_n _ (by omega) _ | exact in_set_f _ _ | rfl) ?_))
           | ((refine z_sti 4 rfl rfl ?_; refine o_store4 rfl tabOk rfl rfl rfl rfl rfl (by first | exact ba_at _ (by omega) | exact in_k _ | exact in_s _ | exact in_n _ (by omega) | exact in_f _ | exact na_at _ (by omega) | rfl) (by first | exact hset | exact ba_set _ _ _ _ | exact in_set_n _ (by omega) _ | exact in_set_f _ _ | rfl) ?_))
           | ((refine z_sti 5 rfl rfl ?_; refine o_store5 rfl tabOk rfl rfl rfl rfl rfl (by first | exact ba_at _ (by omega) | exact in_k _ | exact in_s _ | exact in_n _ (by omega) | exact in_f _ | exact na_at _ (by omega) | rfl) (by first | exact hset | exact ba_set _ _ _ _ | exact in_set_n _ (by omega) _ | exact in_set_f _ _ | rfl) ?_))
           | ((refine z_sti 6 rfl rfl ?_; refine o_store6 rfl tabOk rfl rfl rfl rfl rfl (by first | exact ba_at _ (by omega) | exact in_k _ | exact in_s _ | exact in_n _ (by omega) | exact in_f _ | exact na_at _ (by omega) | rfl) (by first | exact hset | exact ba_set _ _ _ _ | exact in_set_n _ (by omega) _ | exact in_set_f _ _ | rfl) ?_))))
           | (refine z_iscall ?_; first
           | ((refine z_iscallf 19 ?_; refine o_fn rfl Try.func19 rfl rfl rfl (rright_fn _) (by decide) ?_)))
           | (refine z_isix ?_; first
           | refine o_index0 tabOk rfl rfl rfl rfl (by omega) (by omega) (by decide) ?_
           | refine o_index1 tabOk rfl rfl rfl rfl (by omega) (by omega) (by decide) ?_
           | refine o_indexsk1 tabOk rfl rfl rfl rfl (by omega) (by omega) (by decide) ?_
           | refine o_indexsk tabOk rfl rfl rfl rfl (by omega) (by omega) (by decide) ?_
           | refine o_indexs1 tabOk (by first | assumption) rfl rfl rfl rfl (by omega) (by omega) (by decide) ?_)
           | refine o_move rfl (by decide) ?_
           | refine o_assign rfl (by decide) ?_
           | refine o_nil rfl (by decide) ?_
           | refine o_extract rfl rfl (by decide) ?_
           | refine o_not rfl (by decide) ?_
           | refine o_field0 tabOk rfl rfl rfl rfl rfl (by decide) ?_
           | refine o_field tabOk rfl rfl rfl rfl rfl (by decide) ?_
           | refine o_conv tabOk rfl rfl rfl (by decide) ?_))
      · have hk : rok d o = true := by
          unfold rok
          rw [hr, upTo_iff.2 (fun j hj => by simp [hi2 j (by omega)])]; rfl
        rw [if_pos hk, hk]
        repeat' (first
         | (refine s_is ?_; first
         | (refine s_isret ?_; first
         | exact p_r2 rfl (res_c tabOk rfl rfl rfl 2 rfl (in_len _)) (res_t rfl) rfl)
         | (refine s_isw ?_; first
         | refine c_seq ?_
         | refine c_block ?_
         | refine c_region ?_
         | refine c_mixed mixed (by kernel_rfl) ?_
         | refine c_skip ?_
         | refine c_ret ?_
         | refine c_exit ?_
         | (refine s_iscond ?_; first
         | (refine c_true rfl (by first | with_reducible rfl | with_reducible assumption | ((with_reducible refine decide_eq_true ?_); first | with_reducible rfl | with_reducible assumption | omega)) ?_)
         | (refine c_false rfl (by first | with_reducible rfl | with_reducible assumption | ((with_reducible refine decide_eq_false ?_); first | with_reducible assumption | omega)) ?_)
         | (refine c_true rfl (by first | (simp only [Bool.not_eq_true', decide_eq_false_iff_not]; omega) | (with_reducible assumption) | (rw [decide_eq_false] <;> (first | omega | with_reducible rfl)) | (rw [decide_eq_true] <;> (first | omega | with_reducible rfl)) | (simp; done) | (simp; omega)) ?_)
         | (refine c_false rfl (by first | (simp only [Bool.not_eq_false', decide_eq_true_eq]; omega) | (with_reducible assumption) | (rw [decide_eq_false] <;> (first | omega | with_reducible rfl)) | (rw [decide_eq_true] <;> (first | omega | with_reducible rfl)) | (simp; done) | (simp; omega)) ?_)
         | refine c_cond rfl (fun hc => ?_) (fun hc => ?_)
         | refine c_condb rfl (fun hc => ?_) (fun hc => ?_)))
         | refine x_then ?_
         | refine x_then_ret ?_
         | refine x_then_exit ?_
         | refine x_block _ ?_
         | refine x_block_ret _ ?_
         | refine x_block_exit _ ?_
         | refine x_block_past (by decide) ?_
         | refine z_tailm ?_)
         | (refine z_isnil ?_; first
         | refine z_list ?_
         | refine z_mixed ?_
         | refine z_mono0 ?_
         | refine z_mono1 (by decide) fun g => ?_
         | refine z_mono2 (by decide) (by decide) fun g g' => ?_
         | refine z_mixedx ?_
         | refine z_quiet ?_)
         | (refine z_isop ?_; first
         | refine o_boxa rfl rfl (by decide) fun g => ?_
         | refine o_build0 (t := 34) (v := .agg In.zero.cs.toArray) (fun _ => by kernel_rfl) (by decide) ?_
         | refine o_build0 (t := 28) (v := .agg In.zero.cs.toArray) (fun _ => by kernel_rfl) (by decide) ?_
         | refine o_alloca (e := 28) (vs := In.zero.cs) rfl (by kernel_rfl) (by decide) fun g => ?_
         | refine o_alloca (e := 37) (vs := ba 32 (fun _ => 0)) rfl (by kernel_rfl) (by decide) fun g => ?_
         | refine o_convi tabOk rfl rfl rfl (wrap_by (hb _)) (by decide) ?_
         | (refine z_isbin ?_; first
         | refine o_eqa cmp34 rfl rfl (in_typed _) (in_typed _) (by decide) ?_
         | refine o_eqa cmp28 rfl rfl (in_typed _) (in_typed _) (by decide) ?_
         | (refine z_isb .add ?_; first
         | refine o_add rfl rfl (by omega) (by omega) (by decide) ?_
         | refine o_addw rfl rfl (by decide) ?_)
         | (refine z_isb .mul ?_; first
         | refine o_mul rfl rfl (by omega) (by omega) (by decide) ?_
         | refine o_mulw rfl rfl (by decide) ?_)
         | (refine z_isb .neq ?_; first
         | refine o_ne rfl rfl (by decide) ?_
         | refine o_bne tabOk rfl rfl rfl (by decide) ?_
         | refine o_pne tabOk rfl rfl (by decide) ?_)
         | (refine z_isb .lss ?_; first
         | refine o_lt rfl rfl (by decide) ?_))
         | (refine z_isload ?_; first
         | refine o_loadp tabOk rfl rfl rfl 0 rfl (na_len _) (in_near _) (by decide) ?_
         | refine o_loadp tabOk rfl rfl rfl 1 rfl (na_len _) (in_near _) (by decide) ?_
         | refine o_loadp tabOk rfl rfl rfl 2 rfl (na_len _) (in_near _) (by decide) ?_
         | (refine z_ld1 tabOk rfl rfl ?_; first
         | refine o_loadm tabOk rfl rfl rfl (by repeat' (first | exact List.mem_cons_self | apply List.mem_cons_of_mem)) (by first | exact ba_at _ (by omega) | exact in_k _ | exact in_s _ | exact in_n _ (by omega) | exact in_f _ | exact na_at _ (by omega) | rfl) (by decide) ?_
         | refine o_loads tabOk (by first | assumption | exact Rds.cons _ (by assumption) | exact Rds.cons _ (Rds.cons _ (by assumption)) | exact own_rds 0 rfl | exact own_rds 1 rfl | exact own_rds 2 rfl) rfl rfl rfl (by first | exact ba_at _ (by omega) | exact in_k _ | exact in_s _ | exact in_n _ (by omega) | exact in_f _ | exact na_at _ (by omega) | rfl) (by decide) ?_)
         | (refine z_ldw tabOk rfl rfl ?_; first
         | refine o_loadwm tabOk rfl rfl rfl (by repeat' (first | exact List.mem_cons_self | apply List.mem_cons_of_mem)) (by first | exact ba_len _ _ | exact in_len _ | exact na_len _ | (simp only [ba_len, in_len, na_len]) | rfl) (by decide) ?_))
         | (refine z_isstore ?_; first
         | (refine z_stw rfl ?_; first
         | ((refine z_sti 0 rfl rfl ?_; refine o_storeb0 rfl tabOk rfl rfl rfl (by first | exact ba_len _ _ | exact in_len _ | exact na_len _ | (simp only [ba_len, in_len, na_len]) | rfl) (by first | exact ba_one _ _ | exact in_one _ | exact na_one _ | rfl) (by first | exact ba_len _ _ | exact in_len _ | exact na_len _ | (simp only [ba_len, in_len, na_len]) | rfl) ?_))
         | ((refine z_sti 1 rfl rfl ?_; refine o_storeb1 rfl tabOk rfl rfl rfl (by first | exact ba_len _ _ | exact in_len _ | exact na_len _ | (simp only [ba_len, in_len, na_len]) | rfl) (by first | exact ba_one _ _ | exact in_one _ | exact na_one _ | rfl) (by first | exact ba_len _ _ | exact in_len _ | exact na_len _ | (simp only [ba_len, in_len, na_len]) | rfl) ?_))
         | ((refine z_sti 2 rfl rfl ?_; refine o_storeb2 rfl tabOk rfl rfl rfl (by first | exact ba_len _ _ | exact in_len _ | exact na_len _ | (simp only [ba_len, in_len, na_len]) | rfl) (by first | exact ba_one _ _ | exact in_one _ | exact na_one _ | rfl) (by first | exact ba_len _ _ | exact in_len _ | exact na_len _ | (simp only [ba_len, in_len, na_len]) | rfl) ?_))
         | ((refine z_sti 3 rfl rfl ?_; refine o_storeb3 rfl tabOk rfl rfl rfl (by first | exact ba_len _ _ | exact in_len _ | exact na_len _ | (simp only [ba_len, in_len, na_len]) | rfl) (by first | exact ba_one _ _ | exact in_one _ | exact na_one _ | rfl) (by first | exact ba_len _ _ | exact in_len _ | exact na_len _ | (simp only [ba_len, in_len, na_len]) | rfl) ?_))
         | ((refine z_sti 4 rfl rfl ?_; refine o_storeb4 rfl tabOk rfl rfl rfl (by first | exact ba_len _ _ | exact in_len _ | exact na_len _ | (simp only [ba_len, in_len, na_len]) | rfl) (by first | exact ba_one _ _ | exact in_one _ | exact na_one _ | rfl) (by first | exact ba_len _ _ | exact in_len _ | exact na_len _ | (simp only [ba_len, in_len, na_len]) | rfl) ?_))
         | ((refine z_sti 5 rfl rfl ?_; refine o_storeb5 rfl tabOk rfl rfl rfl (by first | exact ba_len _ _ | exact in_len _ | exact na_len _ | (simp only [ba_len, in_len, na_len]) | rfl) (by first | exact ba_one _ _ | exact in_one _ | exact na_one _ | rfl) (by first | exact ba_len _ _ | exact in_len _ | exact na_len _ | (simp only [ba_len, in_len, na_len]) | rfl) ?_))
         | ((refine z_sti 6 rfl rfl ?_; refine o_storeb6 rfl tabOk rfl rfl rfl (by first | exact ba_len _ _ | exact in_len _ | exact na_len _ | (simp only [ba_len, in_len, na_len]) | rfl) (by first | exact ba_one _ _ | exact in_one _ | exact na_one _ | rfl) (by first | exact ba_len _ _ | exact in_len _ | exact na_len _ | (simp only [ba_len, in_len, na_len]) | rfl) ?_)))
         | (refine z_st1 rfl rfl ?_; first
         | refine o_store rfl tabOk rfl rfl rfl rfl rfl (by first | exact ba_at _ (by omega) | exact in_k _ | exact in_s _ | exact in_n _ (by omega) | exact in_f _ | exact na_at _ (by omega) | rfl) (by first | exact hset | exact ba_set _ _ _ _ | exact in_set_n _ (by omega) _ | exact in_set_f _ _ | rfl) ?_
         | ((refine z_sti 1 rfl rfl ?_; refine o_store1 rfl tabOk rfl rfl rfl rfl rfl (by first | exact ba_at _ (by omega) | exact in_k _ | exact in_s _ | exact in_n _ (by omega) | exact in_f _ | exact na_at _ (by omega) | rfl) (by first | exact hset | exact ba_set _ _ _ _ | exact in_set_n _ (by omega) _ | exact in_set_f _ _ | rfl) ?_))
         | ((refine z_sti 2 rfl rfl ?_; refine o_store2 rfl tabOk rfl rfl rfl rfl rfl (by first | exact ba_at _ (by omega) | exact in_k _ | exact in_s _ | exact in_n _ (by omega) | exact in_f _ | exact na_at _ (by omega) | rfl) (by first | exact hset | exact ba_set _ _ _ _ | exact in_set_n _ (by omega) _ | exact in_set_f _ _ | rfl) ?_))
         | ((refine z_sti 3 rfl rfl ?_; refine o_store3 rfl tabOk rfl rfl rfl rfl rfl (by first | exact ba_at _ (by omega) | exact in_k _ | exact in_s _ | exact in_n _ (by omega) | exact in_f _ | exact na_at _ (by omega) | rfl) (by first | exact hset | exact ba_set _ _ _ _ | exact in_set_n _ (by omega) _ | exact in_set_f _ _ | rfl) ?_))
         | ((refine z_sti 4 rfl rfl ?_; refine o_store4 rfl tabOk rfl rfl rfl rfl rfl (by first | exact ba_at _ (by omega) | exact in_k _ | exact in_s _ | exact in_n _ (by omega) | exact in_f _ | exact na_at _ (by omega) | rfl) (by first | exact hset | exact ba_set _ _ _ _ | exact in_set_n _ (by omega) _ | exact in_set_f _ _ | rfl) ?_))
         | ((refine z_sti 5 rfl rfl ?_; refine o_store5 rfl tabOk rfl rfl rfl rfl rfl (by first | exact ba_at _ (by omega) | exact in_k _ | exact in_s _ | exact in_n _ (by omega) | exact in_f _ | exact na_at _ (by omega) | rfl) (by first | exact hset | exact ba_set _ _ _ _ | exact in_set_n _ (by omega) _ | exact in_set_f _ _ | rfl) ?_))
         | ((refine z_sti 6 rfl rfl ?_; refine o_store6 rfl tabOk rfl rfl rfl rfl rfl (by first | exact ba_at _ (by omega) | exact in_k _ | exact in_s _ | exact in_n _ (by omega) | exact in_f _ | exact na_at _ (by omega) | rfl) (by first | exact hset | exact ba_set _ _ _ _ | exact in_set_n _ (by omega) _ | exact in_set_f _ _ | rfl) ?_))))
         | (refine z_iscall ?_; first
         | ((refine z_iscallf 19 ?_; refine o_fn rfl Try.func19 rfl rfl rfl (rright_fn _) (by decide) ?_)))
         | (refine z_isix ?_; first
         | refine o_index0 tabOk rfl rfl rfl rfl (by omega) (by omega) (by decide) ?_
         | refine o_index1 tabOk rfl rfl rfl rfl (by omega) (by omega) (by decide) ?_
         | refine o_indexsk1 tabOk rfl rfl rfl rfl (by omega) (by omega) (by decide) ?_
         | refine o_indexsk tabOk rfl rfl rfl rfl (by omega) (by omega) (by decide) ?_
         | refine o_indexs1 tabOk (by first | assumption) rfl rfl rfl rfl (by omega) (by omega) (by decide) ?_)
         | refine o_move rfl (by decide) ?_
         | refine o_assign rfl (by decide) ?_
         | refine o_nil rfl (by decide) ?_
         | refine o_extract rfl rfl (by decide) ?_
         | refine o_not rfl (by decide) ?_
         | refine o_field0 tabOk rfl rfl rfl rfl rfl (by decide) ?_
         | refine o_field tabOk rfl rfl rfl rfl rfl (by decide) ?_
         | refine o_conv tabOk rfl rfl rfl (by decide) ?_))
    · have g1 : (!right (dec d o)) = true := by rw [hr]; rfl
      have hk : rok d o = false := by unfold rok; rw [hr]; rfl
      rw [if_neg (by rw [hk]; simp), hk]
      repeat' (first
       | (refine s_is ?_; first
       | (refine s_isret ?_; first
       | exact p_r2 rfl (res_c tabOk rfl rfl rfl 1 rfl (in_len _)) (res_t rfl) rfl)
       | (refine s_isw ?_; first
       | refine c_seq ?_
       | refine c_block ?_
       | refine c_region ?_
       | refine c_mixed mixed (by kernel_rfl) ?_
       | refine c_skip ?_
       | refine c_ret ?_
       | refine c_exit ?_
       | (refine s_iscond ?_; first
       | (refine c_true rfl (by first | with_reducible rfl | with_reducible assumption | ((with_reducible refine decide_eq_true ?_); first | with_reducible rfl | with_reducible assumption | omega)) ?_)
       | (refine c_false rfl (by first | with_reducible rfl | with_reducible assumption | ((with_reducible refine decide_eq_false ?_); first | with_reducible assumption | omega)) ?_)
       | (refine c_true rfl (by first | (simp only [Bool.not_eq_true', decide_eq_false_iff_not]; omega) | (with_reducible assumption) | (rw [decide_eq_false] <;> (first | omega | with_reducible rfl)) | (rw [decide_eq_true] <;> (first | omega | with_reducible rfl)) | (simp; done) | (simp; omega)) ?_)
       | (refine c_false rfl (by first | (simp only [Bool.not_eq_false', decide_eq_true_eq]; omega) | (with_reducible assumption) | (rw [decide_eq_false] <;> (first | omega | with_reducible rfl)) | (rw [decide_eq_true] <;> (first | omega | with_reducible rfl)) | (simp; done) | (simp; omega)) ?_)
       | refine c_cond rfl (fun hc => ?_) (fun hc => ?_)
       | refine c_condb rfl (fun hc => ?_) (fun hc => ?_)))
       | refine x_then ?_
       | refine x_then_ret ?_
       | refine x_then_exit ?_
       | refine x_block _ ?_
       | refine x_block_ret _ ?_
       | refine x_block_exit _ ?_
       | refine x_block_past (by decide) ?_
       | refine z_tailm ?_)
       | (refine z_isnil ?_; first
       | refine z_list ?_
       | refine z_mixed ?_
       | refine z_mono0 ?_
       | refine z_mono1 (by decide) fun g => ?_
       | refine z_mono2 (by decide) (by decide) fun g g' => ?_
       | refine z_mixedx ?_
       | refine z_quiet ?_)
       | (refine z_isop ?_; first
       | refine o_boxa rfl rfl (by decide) fun g => ?_
       | refine o_build0 (t := 34) (v := .agg In.zero.cs.toArray) (fun _ => by kernel_rfl) (by decide) ?_
       | refine o_build0 (t := 28) (v := .agg In.zero.cs.toArray) (fun _ => by kernel_rfl) (by decide) ?_
       | refine o_alloca (e := 28) (vs := In.zero.cs) rfl (by kernel_rfl) (by decide) fun g => ?_
       | refine o_alloca (e := 37) (vs := ba 32 (fun _ => 0)) rfl (by kernel_rfl) (by decide) fun g => ?_
       | refine o_convi tabOk rfl rfl rfl (wrap_by (hb _)) (by decide) ?_
       | (refine z_isbin ?_; first
       | refine o_eqa cmp34 rfl rfl (in_typed _) (in_typed _) (by decide) ?_
       | refine o_eqa cmp28 rfl rfl (in_typed _) (in_typed _) (by decide) ?_
       | (refine z_isb .add ?_; first
       | refine o_add rfl rfl (by omega) (by omega) (by decide) ?_
       | refine o_addw rfl rfl (by decide) ?_)
       | (refine z_isb .mul ?_; first
       | refine o_mul rfl rfl (by omega) (by omega) (by decide) ?_
       | refine o_mulw rfl rfl (by decide) ?_)
       | (refine z_isb .neq ?_; first
       | refine o_ne rfl rfl (by decide) ?_
       | refine o_bne tabOk rfl rfl rfl (by decide) ?_
       | refine o_pne tabOk rfl rfl (by decide) ?_)
       | (refine z_isb .lss ?_; first
       | refine o_lt rfl rfl (by decide) ?_))
       | (refine z_isload ?_; first
       | refine o_loadp tabOk rfl rfl rfl 0 rfl (na_len _) (in_near _) (by decide) ?_
       | refine o_loadp tabOk rfl rfl rfl 1 rfl (na_len _) (in_near _) (by decide) ?_
       | refine o_loadp tabOk rfl rfl rfl 2 rfl (na_len _) (in_near _) (by decide) ?_
       | (refine z_ld1 tabOk rfl rfl ?_; first
       | refine o_loadm tabOk rfl rfl rfl (by repeat' (first | exact List.mem_cons_self | apply List.mem_cons_of_mem)) (by first | exact ba_at _ (by omega) | exact in_k _ | exact in_s _ | exact in_n _ (by omega) | exact in_f _ | exact na_at _ (by omega) | rfl) (by decide) ?_
       | refine o_loads tabOk (by first | assumption | exact Rds.cons _ (by assumption) | exact Rds.cons _ (Rds.cons _ (by assumption)) | exact own_rds 0 rfl | exact own_rds 1 rfl | exact own_rds 2 rfl) rfl rfl rfl (by first | exact ba_at _ (by omega) | exact in_k _ | exact in_s _ | exact in_n _ (by omega) | exact in_f _ | exact na_at _ (by omega) | rfl) (by decide) ?_)
       | (refine z_ldw tabOk rfl rfl ?_; first
       | refine o_loadwm tabOk rfl rfl rfl (by repeat' (first | exact List.mem_cons_self | apply List.mem_cons_of_mem)) (by first | exact ba_len _ _ | exact in_len _ | exact na_len _ | (simp only [ba_len, in_len, na_len]) | rfl) (by decide) ?_))
       | (refine z_isstore ?_; first
       | (refine z_stw rfl ?_; first
       | ((refine z_sti 0 rfl rfl ?_; refine o_storeb0 rfl tabOk rfl rfl rfl (by first | exact ba_len _ _ | exact in_len _ | exact na_len _ | (simp only [ba_len, in_len, na_len]) | rfl) (by first | exact ba_one _ _ | exact in_one _ | exact na_one _ | rfl) (by first | exact ba_len _ _ | exact in_len _ | exact na_len _ | (simp only [ba_len, in_len, na_len]) | rfl) ?_))
       | ((refine z_sti 1 rfl rfl ?_; refine o_storeb1 rfl tabOk rfl rfl rfl (by first | exact ba_len _ _ | exact in_len _ | exact na_len _ | (simp only [ba_len, in_len, na_len]) | rfl) (by first | exact ba_one _ _ | exact in_one _ | exact na_one _ | rfl) (by first | exact ba_len _ _ | exact in_len _ | exact na_len _ | (simp only [ba_len, in_len, na_len]) | rfl) ?_))
       | ((refine z_sti 2 rfl rfl ?_; refine o_storeb2 rfl tabOk rfl rfl rfl (by first | exact ba_len _ _ | exact in_len _ | exact na_len _ | (simp only [ba_len, in_len, na_len]) | rfl) (by first | exact ba_one _ _ | exact in_one _ | exact na_one _ | rfl) (by first | exact ba_len _ _ | exact in_len _ | exact na_len _ | (simp only [ba_len, in_len, na_len]) | rfl) ?_))
       | ((refine z_sti 3 rfl rfl ?_; refine o_storeb3 rfl tabOk rfl rfl rfl (by first | exact ba_len _ _ | exact in_len _ | exact na_len _ | (simp only [ba_len, in_len, na_len]) | rfl) (by first | exact ba_one _ _ | exact in_one _ | exact na_one _ | rfl) (by first | exact ba_len _ _ | exact in_len _ | exact na_len _ | (simp only [ba_len, in_len, na_len]) | rfl) ?_))
       | ((refine z_sti 4 rfl rfl ?_; refine o_storeb4 rfl tabOk rfl rfl rfl (by first | exact ba_len _ _ | exact in_len _ | exact na_len _ | (simp only [ba_len, in_len, na_len]) | rfl) (by first | exact ba_one _ _ | exact in_one _ | exact na_one _ | rfl) (by first | exact ba_len _ _ | exact in_len _ | exact na_len _ | (simp only [ba_len, in_len, na_len]) | rfl) ?_))
       | ((refine z_sti 5 rfl rfl ?_; refine o_storeb5 rfl tabOk rfl rfl rfl (by first | exact ba_len _ _ | exact in_len _ | exact na_len _ | (simp only [ba_len, in_len, na_len]) | rfl) (by first | exact ba_one _ _ | exact in_one _ | exact na_one _ | rfl) (by first | exact ba_len _ _ | exact in_len _ | exact na_len _ | (simp only [ba_len, in_len, na_len]) | rfl) ?_))
       | ((refine z_sti 6 rfl rfl ?_; refine o_storeb6 rfl tabOk rfl rfl rfl (by first | exact ba_len _ _ | exact in_len _ | exact na_len _ | (simp only [ba_len, in_len, na_len]) | rfl) (by first | exact ba_one _ _ | exact in_one _ | exact na_one _ | rfl) (by first | exact ba_len _ _ | exact in_len _ | exact na_len _ | (simp only [ba_len, in_len, na_len]) | rfl) ?_)))
       | (refine z_st1 rfl rfl ?_; first
       | refine o_store rfl tabOk rfl rfl rfl rfl rfl (by first | exact ba_at _ (by omega) | exact in_k _ | exact in_s _ | exact in_n _ (by omega) | exact in_f _ | exact na_at _ (by omega) | rfl) (by first | exact hset | exact ba_set _ _ _ _ | exact in_set_n _ (by omega) _ | exact in_set_f _ _ | rfl) ?_
       | ((refine z_sti 1 rfl rfl ?_; refine o_store1 rfl tabOk rfl rfl rfl rfl rfl (by first | exact ba_at _ (by omega) | exact in_k _ | exact in_s _ | exact in_n _ (by omega) | exact in_f _ | exact na_at _ (by omega) | rfl) (by first | exact hset | exact ba_set _ _ _ _ | exact in_set_n _ (by omega) _ | exact in_set_f _ _ | rfl) ?_))
       | ((refine z_sti 2 rfl rfl ?_; refine o_store2 rfl tabOk rfl rfl rfl rfl rfl (by first | exact ba_at _ (by omega) | exact in_k _ | exact in_s _ | exact in_n _ (by omega) | exact in_f _ | exact na_at _ (by omega) | rfl) (by first | exact hset | exact ba_set _ _ _ _ | exact in_set_n _ (by omega) _ | exact in_set_f _ _ | rfl) ?_))
       | ((refine z_sti 3 rfl rfl ?_; refine o_store3 rfl tabOk rfl rfl rfl rfl rfl (by first | exact ba_at _ (by omega) | exact in_k _ | exact in_s _ | exact in_n _ (by omega) | exact in_f _ | exact na_at _ (by omega) | rfl) (by first | exact hset | exact ba_set _ _ _ _ | exact in_set_n _ (by omega) _ | exact in_set_f _ _ | rfl) ?_))
       | ((refine z_sti 4 rfl rfl ?_; refine o_store4 rfl tabOk rfl rfl rfl rfl rfl (by first | exact ba_at _ (by omega) | exact in_k _ | exact in_s _ | exact in_n _ (by omega) | exact in_f _ | exact na_at _ (by omega) | rfl) (by first | exact hset | exact ba_set _ _ _ _ | exact in_set_n _ (by omega) _ | exact in_set_f _ _ | rfl) ?_))
       | ((refine z_sti 5 rfl rfl ?_; refine o_store5 rfl tabOk rfl rfl rfl rfl rfl (by first | exact ba_at _ (by omega) | exact in_k _ | exact in_s _ | exact in_n _ (by omega) | exact in_f _ | exact na_at _ (by omega) | rfl) (by first | exact hset | exact ba_set _ _ _ _ | exact in_set_n _ (by omega) _ | exact in_set_f _ _ | rfl) ?_))
       | ((refine z_sti 6 rfl rfl ?_; refine o_store6 rfl tabOk rfl rfl rfl rfl rfl (by first | exact ba_at _ (by omega) | exact in_k _ | exact in_s _ | exact in_n _ (by omega) | exact in_f _ | exact na_at _ (by omega) | rfl) (by first | exact hset | exact ba_set _ _ _ _ | exact in_set_n _ (by omega) _ | exact in_set_f _ _ | rfl) ?_))))
       | (refine z_iscall ?_; first
       | ((refine z_iscallf 19 ?_; refine o_fn rfl Try.func19 rfl rfl rfl (rright_fn _) (by decide) ?_)))
       | (refine z_isix ?_; first
       | refine o_index0 tabOk rfl rfl rfl rfl (by omega) (by omega) (by decide) ?_
       | refine o_index1 tabOk rfl rfl rfl rfl (by omega) (by omega) (by decide) ?_
       | refine o_indexsk1 tabOk rfl rfl rfl rfl (by omega) (by omega) (by decide) ?_
       | refine o_indexsk tabOk rfl rfl rfl rfl (by omega) (by omega) (by decide) ?_
       | refine o_indexs1 tabOk (by first | assumption) rfl rfl rfl rfl (by omega) (by omega) (by decide) ?_)
       | refine o_move rfl (by decide) ?_
       | refine o_assign rfl (by decide) ?_
       | refine o_nil rfl (by decide) ?_
       | refine o_extract rfl rfl (by decide) ?_
       | refine o_not rfl (by decide) ?_
       | refine o_field0 tabOk rfl rfl rfl rfl rfl (by decide) ?_
       | refine o_field tabOk rfl rfl rfl rfl rfl (by decide) ?_
       | refine o_conv tabOk rfl rfl rfl (by decide) ?_))
end Go.Proofs.Ytmfnjmmdchlkiaa
