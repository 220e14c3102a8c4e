/-
The document's: a program is done.
-/
import Derived.Test.YtmfnjmmdchlkiaaPr3
namespace Go.Proofs.Ytmfnjmmdchlkiaa
set_option linter.unusedVariables false
set_option linter.unusedSimpArgs false
open Eng
attribute [local irreducible] Eng.Hold Eng.Z Eng.S Eng.cells Eng.old Eng.own tcs Pe.cs inB
attribute [local irreducible] loopX doneP
set_option maxHeartbeats 4000000 in
theorem rexit_c (e : Tb) (hok : Ok e) (b : Nat) (i u : Int) : Does Try.prog 52 [.pointer (some ⟨b, 0, none⟩), .int .i64 i, .int .u32 u] [cells b 69 (tcs e)] (fun _ : Unit => True) (fun _ => .tuple #[.int .i64 (exit e i u).a, .int .i64 (exit e i u).b]) (fun _ => [cells b 69 (tcs (exit e i u).e)]) := by
  intro w hw
  refine f_enter Try.func52 rfl Try.ntmps52 rfl hw ?_
  rcases Bool.eq_false_or_eq_true (inB e i) with hin | hin
  · have g1 : (!inB e i) = false := by rw [hin]; rfl
    obtain ⟨i1, i7, _⟩ := in_iff.1 hin
    have hok1 : Ok (doneP e i.toNat u) := by unfold doneP; exact hok.upd (.inr (.inr rfl)) (.inl (by omega))
    have l1 : loopX (doneP e i.toNat u) i 1 = doneP e i.toNat u := by
      rw [loopX_succ, loopX_zero, stepA (fun h => h.1 hok1.z)]
    repeat' (first
     | (refine s_is ?_; first
     | (refine s_isw ?_; first
     | (refine s_isloop ?_; first
     | ((refine c_loop (X := Nat) (fun k => 1 ≤ k ∧ k ≤ 8) (fun k => [(0, .pointer (some ⟨b, 0, none⟩)), (1, .int .i64 i), (8, .int .i64 k)]) (fun k => [cells b 69 (tcs (loopX (doneP e i.toNat u) i k))]) (fun k => 8 - k) 1 (by omega) ⟨rfl, rfl, rfl, trivial⟩ (fun w h => by rw [doneP_eq] at h; rw [l1]; exact h) (fun k hk => ?_); refine hold ?_)))
     | refine c_seq ?_
     | refine c_block ?_
     | refine c_region ?_
     | refine c_mixed mixed (by kernel_rfl) ?_
     | refine c_skip ?_
     | refine c_ret ?_
     | refine c_exit ?_
     | (refine s_iscond ?_; first
     | (refine c_true rfl (by first | with_reducible rfl | with_reducible assumption | ((with_reducible refine decide_eq_true ?_); first | with_reducible rfl | with_reducible assumption | omega)) ?_)
     | (refine c_false rfl (by first | with_reducible rfl | with_reducible assumption | ((with_reducible refine decide_eq_false ?_); first | with_reducible assumption | omega)) ?_)
     | (refine c_true rfl (by first | (simp only [Bool.not_eq_true', decide_eq_false_iff_not]; omega) | (with_reducible assumption) | (rw [decide_eq_false] <;> (first | omega | with_reducible rfl)) | (rw [decide_eq_true] <;> (first | omega | with_reducible rfl)) | (simp; done) | (simp; omega)) ?_)
     | (refine c_false rfl (by first | (simp only [Bool.not_eq_false', decide_eq_true_eq]; omega) | (with_reducible assumption) | (rw [decide_eq_false] <;> (first | omega | with_reducible rfl)) | (rw [decide_eq_true] <;> (first | omega | with_reducible rfl)) | (simp; done) | (simp; omega)) ?_)
     | refine c_cond rfl (fun hc => ?_) (fun hc => ?_)
     | refine c_condb rfl (fun hc => ?_) (fun hc => ?_)))
     | refine x_then ?_
     | refine x_then_ret ?_
     | refine x_then_exit ?_
     | refine x_block _ ?_
     | refine x_block_ret _ ?_
     | refine x_block_exit _ ?_
     | refine x_block_past (by decide) ?_
     | refine z_tailm ?_)
     | (refine z_isg1 ?_; first
     | refine z_skipu (by decide) rfl rfl ?_
     | (refine z_want1 rfl rfl (by first | with_reducible rfl | with_reducible assumption | ((with_reducible refine decide_eq_true ?_); first | with_reducible rfl | with_reducible assumption | omega)) ?_)
     | (refine z_skip1 (by decide) rfl rfl (by first | with_reducible rfl | with_reducible assumption | ((with_reducible refine decide_eq_false ?_); first | with_reducible assumption | omega)) ?_)
     | (refine z_want1 rfl rfl (by first | (simp only [Bool.not_eq_true', decide_eq_false_iff_not]; omega) | (with_reducible assumption) | (rw [decide_eq_false] <;> (first | omega | with_reducible rfl)) | (rw [decide_eq_true] <;> (first | omega | with_reducible rfl)) | (simp; done) | (simp; omega)) ?_)
     | (refine z_skip1 (by decide) rfl rfl (by first | (simp only [Bool.not_eq_false', decide_eq_true_eq]; omega) | (with_reducible assumption) | (rw [decide_eq_false] <;> (first | omega | with_reducible rfl)) | (rw [decide_eq_true] <;> (first | omega | with_reducible rfl)) | (simp; done) | (simp; omega)) ?_)
     | refine z_guard1 (by decide) rfl rfl (fun hc => ?_) (fun hc => ?_)
     | refine z_guardb (by decide) rfl rfl (fun hc => ?_) (fun hc => ?_))
     | (refine z_isnil ?_; first
     | refine z_list ?_
     | refine z_mixed ?_
     | refine z_mono0 ?_
     | refine z_mono1 (by decide) fun g => ?_
     | refine z_mono2 (by decide) (by decide) fun g g' => ?_
     | refine z_mixedx ?_
     | refine z_quiet ?_)
     | (refine z_isop ?_; first
     | refine o_indexm tabOk rfl rfl rfl rfl (by omega) (by omega) (by decide) ?_
     | refine o_build0 (t := 102) (v := .agg Pe.zero.cs.toArray) (fun _ => by kernel_rfl) (by decide) ?_
     | refine o_build0 (t := 66) (v := .agg Pe.zero.cs.toArray) (fun _ => by kernel_rfl) (by decide) ?_
     | refine o_alloca (e := 102) (vs := Pe.zero.cs) rfl (by kernel_rfl) (by decide) fun g => ?_
     | refine o_alloca (e := 66) (vs := Pe.zero.cs) rfl (by kernel_rfl) (by decide) fun g => ?_
     | (refine z_isbin ?_; first
     | (refine z_isb .add ?_; first
     | refine o_add rfl rfl (by omega) (by omega) (by decide) ?_
     | refine o_addw rfl rfl (by decide) ?_)
     | (refine z_isb .eql ?_; first
     | refine o_eq rfl rfl (by decide) ?_
     | refine o_beq tabOk rfl rfl rfl (by decide) ?_
     | refine o_peq tabOk rfl rfl (by decide) ?_)
     | (refine z_isb .neq ?_; first
     | refine o_ne rfl rfl (by decide) ?_
     | refine o_bne tabOk rfl rfl rfl (by decide) ?_
     | refine o_pne tabOk rfl rfl (by decide) ?_)
     | (refine z_isb .leq ?_; first
     | refine o_le rfl rfl (by decide) ?_)
     | (refine z_isb .gtr ?_; first
     | refine o_gt rfl rfl (by decide) ?_))
     | (refine z_isload ?_; first
     | refine o_loadp tabOk rfl rfl rfl 0 rfl (pe_len _) (tcs_el _ (by omega)) (by decide) ?_
     | refine o_loadp tabOk rfl rfl rfl 1 rfl (pe_len _) (tcs_el _ (by omega)) (by decide) ?_
     | (refine z_ld1 tabOk rfl rfl ?_; first
     | refine o_loadm tabOk rfl rfl rfl (by repeat' (first | exact List.mem_cons_self | apply List.mem_cons_of_mem)) (by first | exact tcs_s _ (by omega) | exact tcs_p _ (by omega) | exact tcs_u _ (by omega) | exact pe_s _ | exact pe_p _ | exact pe_u _ | rfl) (by decide) ?_
     | refine o_loads tabOk (by first | assumption | exact Rds.cons _ (by assumption) | exact Rds.cons _ (Rds.cons _ (by assumption)) | exact own_rds 0 rfl | exact own_rds 1 rfl | exact own_rds 2 rfl) rfl rfl rfl (by first | exact tcs_s _ (by omega) | exact tcs_p _ (by omega) | exact tcs_u _ (by omega) | exact pe_s _ | exact pe_p _ | exact pe_u _ | rfl) (by decide) ?_)
     | (refine z_ldw tabOk rfl rfl ?_; first
     | refine o_loadwm tabOk rfl rfl rfl (by repeat' (first | exact List.mem_cons_self | apply List.mem_cons_of_mem)) (by first | exact tcs_len _ | exact pe_len _ | (simp only [tcs_len, pe_len]) | rfl) (by decide) ?_))
     | (refine z_isstore ?_; first
     | (refine o_storew_at rfl 0 tabOk rfl rfl rfl rfl (pe_len _) (pe_one _) (by rw [tcs_len, pe_len]; omega) (tcs_put _ (by omega) _) ?_)
     | (refine o_storew_at rfl 1 tabOk rfl rfl rfl rfl (pe_len _) (pe_one _) (by rw [tcs_len, pe_len]; omega) (tcs_put _ (by omega) _) ?_)
     | (refine z_stw rfl ?_; first
     | ((refine z_sti 0 rfl rfl ?_; refine o_storeb0 rfl tabOk rfl rfl rfl (by first | exact tcs_len _ | exact pe_len _ | (simp only [tcs_len, pe_len]) | rfl) (by first | exact tcs_one _ | exact pe_one _ | rfl) (by first | exact tcs_len _ | exact pe_len _ | (simp only [tcs_len, pe_len]) | rfl) ?_))
     | ((refine z_sti 1 rfl rfl ?_; refine o_storeb1 rfl tabOk rfl rfl rfl (by first | exact tcs_len _ | exact pe_len _ | (simp only [tcs_len, pe_len]) | rfl) (by first | exact tcs_one _ | exact pe_one _ | rfl) (by first | exact tcs_len _ | exact pe_len _ | (simp only [tcs_len, pe_len]) | rfl) ?_))
     | ((refine z_sti 2 rfl rfl ?_; refine o_storeb2 rfl tabOk rfl rfl rfl (by first | exact tcs_len _ | exact pe_len _ | (simp only [tcs_len, pe_len]) | rfl) (by first | exact tcs_one _ | exact pe_one _ | rfl) (by first | exact tcs_len _ | exact pe_len _ | (simp only [tcs_len, pe_len]) | rfl) ?_))
     | ((refine z_sti 3 rfl rfl ?_; refine o_storeb3 rfl tabOk rfl rfl rfl (by first | exact tcs_len _ | exact pe_len _ | (simp only [tcs_len, pe_len]) | rfl) (by first | exact tcs_one _ | exact pe_one _ | rfl) (by first | exact tcs_len _ | exact pe_len _ | (simp only [tcs_len, pe_len]) | rfl) ?_))
     | ((refine z_sti 4 rfl rfl ?_; refine o_storeb4 rfl tabOk rfl rfl rfl (by first | exact tcs_len _ | exact pe_len _ | (simp only [tcs_len, pe_len]) | rfl) (by first | exact tcs_one _ | exact pe_one _ | rfl) (by first | exact tcs_len _ | exact pe_len _ | (simp only [tcs_len, pe_len]) | rfl) ?_))
     | ((refine z_sti 5 rfl rfl ?_; refine o_storeb5 rfl tabOk rfl rfl rfl (by first | exact tcs_len _ | exact pe_len _ | (simp only [tcs_len, pe_len]) | rfl) (by first | exact tcs_one _ | exact pe_one _ | rfl) (by first | exact tcs_len _ | exact pe_len _ | (simp only [tcs_len, pe_len]) | rfl) ?_))
     | ((refine z_sti 6 rfl rfl ?_; refine o_storeb6 rfl tabOk rfl rfl rfl (by first | exact tcs_len _ | exact pe_len _ | (simp only [tcs_len, pe_len]) | rfl) (by first | exact tcs_one _ | exact pe_one _ | rfl) (by first | exact tcs_len _ | exact pe_len _ | (simp only [tcs_len, pe_len]) | rfl) ?_)))
     | (refine z_st1 rfl rfl ?_; first
     | refine o_store rfl tabOk rfl rfl rfl rfl rfl (by first | exact tcs_s _ (by omega) | exact tcs_p _ (by omega) | exact tcs_u _ (by omega) | exact pe_s _ | exact pe_p _ | exact pe_u _ | rfl) (by first | exact tcs_set_s _ (by omega) _ | exact tcs_set_p _ (by omega) _ | exact tcs_set_u _ (by omega) _ | rfl) ?_
     | ((refine z_sti 1 rfl rfl ?_; refine o_store1 rfl tabOk rfl rfl rfl rfl rfl (by first | exact tcs_s _ (by omega) | exact tcs_p _ (by omega) | exact tcs_u _ (by omega) | exact pe_s _ | exact pe_p _ | exact pe_u _ | rfl) (by first | exact tcs_set_s _ (by omega) _ | exact tcs_set_p _ (by omega) _ | exact tcs_set_u _ (by omega) _ | rfl) ?_))
     | ((refine z_sti 2 rfl rfl ?_; refine o_store2 rfl tabOk rfl rfl rfl rfl rfl (by first | exact tcs_s _ (by omega) | exact tcs_p _ (by omega) | exact tcs_u _ (by omega) | exact pe_s _ | exact pe_p _ | exact pe_u _ | rfl) (by first | exact tcs_set_s _ (by omega) _ | exact tcs_set_p _ (by omega) _ | exact tcs_set_u _ (by omega) _ | rfl) ?_))
     | ((refine z_sti 3 rfl rfl ?_; refine o_store3 rfl tabOk rfl rfl rfl rfl rfl (by first | exact tcs_s _ (by omega) | exact tcs_p _ (by omega) | exact tcs_u _ (by omega) | exact pe_s _ | exact pe_p _ | exact pe_u _ | rfl) (by first | exact tcs_set_s _ (by omega) _ | exact tcs_set_p _ (by omega) _ | exact tcs_set_u _ (by omega) _ | rfl) ?_))
     | ((refine z_sti 4 rfl rfl ?_; refine o_store4 rfl tabOk rfl rfl rfl rfl rfl (by first | exact tcs_s _ (by omega) | exact tcs_p _ (by omega) | exact tcs_u _ (by omega) | exact pe_s _ | exact pe_p _ | exact pe_u _ | rfl) (by first | exact tcs_set_s _ (by omega) _ | exact tcs_set_p _ (by omega) _ | exact tcs_set_u _ (by omega) _ | rfl) ?_))
     | ((refine z_sti 5 rfl rfl ?_; refine o_store5 rfl tabOk rfl rfl rfl rfl rfl (by first | exact tcs_s _ (by omega) | exact tcs_p _ (by omega) | exact tcs_u _ (by omega) | exact pe_s _ | exact pe_p _ | exact pe_u _ | rfl) (by first | exact tcs_set_s _ (by omega) _ | exact tcs_set_p _ (by omega) _ | exact tcs_set_u _ (by omega) _ | rfl) ?_))
     | ((refine z_sti 6 rfl rfl ?_; refine o_store6 rfl tabOk rfl rfl rfl rfl rfl (by first | exact tcs_s _ (by omega) | exact tcs_p _ (by omega) | exact tcs_u _ (by omega) | exact pe_s _ | exact pe_p _ | exact pe_u _ | rfl) (by first | exact tcs_set_s _ (by omega) _ | exact tcs_set_p _ (by omega) _ | exact tcs_set_u _ (by omega) _ | rfl) ?_))))
     | (refine z_iscall ?_; first
     | ((refine z_iscallf 54 ?_; refine o_callr rfl Try.func54 rfl rfl rfl (in_c _ _ _ _ (by first | exact cells_rds 0 rfl | exact cells_rds 1 rfl | exact cells_rds 2 rfl)) (by decide) ?_))
     | ((refine z_iscallf 57 ?_; refine o_callr rfl Try.func57 rfl rfl rfl (ralive_c _ _ _ _ (by first | exact cells_rds 0 rfl | exact cells_rds 1 rfl | exact cells_rds 2 rfl)) (by decide) ?_)))
     | (refine z_ispick ?_; first
     | (refine o_pick1 rfl (by first | with_reducible rfl | with_reducible assumption | ((with_reducible refine decide_eq_true ?_); first | with_reducible rfl | with_reducible assumption | omega)) rfl (by decide) ?_)
     | (refine o_pick0 rfl (by first | with_reducible rfl | with_reducible assumption | ((with_reducible refine decide_eq_false ?_); first | with_reducible assumption | omega)) rfl (by decide) ?_)
     | (refine o_pick1 rfl (by first | (simp only [Bool.not_eq_true', decide_eq_false_iff_not]; omega) | (with_reducible assumption) | (rw [decide_eq_false] <;> (first | omega | with_reducible rfl)) | (rw [decide_eq_true] <;> (first | omega | with_reducible rfl)) | (simp; done) | (simp; omega)) rfl (by decide) ?_)
     | (refine o_pick0 rfl (by first | (simp only [Bool.not_eq_false', decide_eq_true_eq]; omega) | (with_reducible assumption) | (rw [decide_eq_false] <;> (first | omega | with_reducible rfl)) | (rw [decide_eq_true] <;> (first | omega | with_reducible rfl)) | (simp; done) | (simp; omega)) rfl (by decide) ?_))
     | (refine z_isix ?_; first
     | refine o_index0 tabOk rfl rfl rfl rfl (by omega) (by omega) (by decide) ?_
     | refine o_index1 tabOk rfl rfl rfl rfl (by omega) (by omega) (by decide) ?_
     | refine o_indexsk1 tabOk rfl rfl rfl rfl (by omega) (by omega) (by decide) ?_
     | refine o_indexsk tabOk rfl rfl rfl rfl (by omega) (by omega) (by decide) ?_
     | refine o_indexs1 tabOk (by first | assumption) rfl rfl rfl rfl (by omega) (by omega) (by decide) ?_)
     | refine o_move rfl (by decide) ?_
     | refine o_assign rfl (by decide) ?_
     | refine o_nil rfl (by decide) ?_
     | refine o_extract rfl rfl (by decide) ?_
     | refine o_not rfl (by decide) ?_
     | refine o_field0 tabOk rfl rfl rfl rfl rfl (by decide) ?_
     | refine o_field tabOk rfl rfl rfl rfl rfl (by decide) ?_
     | refine o_conv tabOk rfl rfl rfl (by decide) ?_))
    refine Hold.go ?_
    by_cases h8 : k < 8
    · have hs := loopX_succ (doneP e i.toNat u) i k
      have hf := hok1.loop i k
      generalize loopX (doneP e i.toNat u) i k = f at *
      have hfs := hf.s k
      have e3 : ((k : Int)).toNat = k := Int.toNat_natCast k
      by_cases hA : (f k).s ≠ 0 ∧ (f k).p = i
      · have hA1 : 0 < (f ((k : Int)).toNat).s := by rw [e3]; have := hA.1; omega
        have hA2 : (f ((k : Int)).toNat).p = i := by rw [e3]; exact hA.2
        by_cases hB : (reP f k k).s = 2 ∧ inB (reP f k) 1 = false
        · rw [stepC hA hB] at hs
          have hB1 : (upd f ((k : Int)).toNat { f ((k : Int)).toNat with p := 1 } ((k : Int)).toNat).s = 2 := by rw [e3]; exact hB.1
          have hB2 : (upd f ((k : Int)).toNat { f ((k : Int)).toNat with p := 1 } (Int.toNat 1)).s ≠ 1 := fun h => by
            rw [e3] at h
            have h9 : inB (reP f k) 1 = true := in_iff.2 ⟨by decide, by decide, h⟩
            rw [hB.2] at h9
            cases h9
          repeat' (first
           | (refine s_is ?_; first
           | (refine s_isagain ?_; first
           | (exact c_again (k + 1) ⟨by omega, by omega⟩ (by omega) ⟨rfl, rfl, rfl, trivial⟩ (fun w h => by simp only [e3] at h; rw [hs]; exact h)))
           | (refine s_isw ?_; first
           | refine c_seq ?_
           | refine c_block ?_
           | refine c_region ?_
           | refine c_mixed mixed (by kernel_rfl) ?_
           | refine c_skip ?_
           | refine c_ret ?_
           | refine c_exit ?_
           | (refine s_iscond ?_; first
           | (refine c_true rfl (by first | with_reducible rfl | with_reducible assumption | ((with_reducible refine decide_eq_true ?_); first | with_reducible rfl | with_reducible assumption | omega)) ?_)
           | (refine c_false rfl (by first | with_reducible rfl | with_reducible assumption | ((with_reducible refine decide_eq_false ?_); first | with_reducible assumption | omega)) ?_)
           | (refine c_true rfl (by first | (simp only [Bool.not_eq_true', decide_eq_false_iff_not]; omega) | (with_reducible assumption) | (rw [decide_eq_false] <;> (first | omega | with_reducible rfl)) | (rw [decide_eq_true] <;> (first | omega | with_reducible rfl)) | (simp; done) | (simp; omega)) ?_)
           | (refine c_false rfl (by first | (simp only [Bool.not_eq_false', decide_eq_true_eq]; omega) | (with_reducible assumption) | (rw [decide_eq_false] <;> (first | omega | with_reducible rfl)) | (rw [decide_eq_true] <;> (first | omega | with_reducible rfl)) | (simp; done) | (simp; omega)) ?_)
           | refine c_cond rfl (fun hc => ?_) (fun hc => ?_)
           | refine c_condb rfl (fun hc => ?_) (fun hc => ?_)))
           | refine x_then ?_
           | refine x_then_ret ?_
           | refine x_then_exit ?_
           | refine x_block _ ?_
           | refine x_block_ret _ ?_
           | refine x_block_exit _ ?_
           | refine x_block_past (by decide) ?_
           | refine z_tailm ?_)
           | (refine z_isg1 ?_; first
           | refine z_skipu (by decide) rfl rfl ?_
           | (refine z_want1 rfl rfl (by first | with_reducible rfl | with_reducible assumption | ((with_reducible refine decide_eq_true ?_); first | with_reducible rfl | with_reducible assumption | omega)) ?_)
           | (refine z_skip1 (by decide) rfl rfl (by first | with_reducible rfl | with_reducible assumption | ((with_reducible refine decide_eq_false ?_); first | with_reducible assumption | omega)) ?_)
           | (refine z_want1 rfl rfl (by first | (simp only [Bool.not_eq_true', decide_eq_false_iff_not]; omega) | (with_reducible assumption) | (rw [decide_eq_false] <;> (first | omega | with_reducible rfl)) | (rw [decide_eq_true] <;> (first | omega | with_reducible rfl)) | (simp; done) | (simp; omega)) ?_)
           | (refine z_skip1 (by decide) rfl rfl (by first | (simp only [Bool.not_eq_false', decide_eq_true_eq]; omega) | (with_reducible assumption) | (rw [decide_eq_false] <;> (first | omega | with_reducible rfl)) | (rw [decide_eq_true] <;> (first | omega | with_reducible rfl)) | (simp; done) | (simp; omega)) ?_)
           | refine z_guard1 (by decide) rfl rfl (fun hc => ?_) (fun hc => ?_)
           | refine z_guardb (by decide) rfl rfl (fun hc => ?_) (fun hc => ?_))
           | (refine z_isnil ?_; first
           | refine z_list ?_
           | refine z_mixed ?_
           | refine z_mono0 ?_
           | refine z_mono1 (by decide) fun g => ?_
           | refine z_mono2 (by decide) (by decide) fun g g' => ?_
           | refine z_mixedx ?_
           | refine z_quiet ?_)
           | (refine z_isop ?_; first
           | refine o_indexm tabOk rfl rfl rfl rfl (by omega) (by omega) (by decide) ?_
           | refine o_build0 (t := 102) (v := .agg Pe.zero.cs.toArray) (fun _ => by kernel_rfl) (by decide) ?_
           | refine o_build0 (t := 66) (v := .agg Pe.zero.cs.toArray) (fun _ => by kernel_rfl) (by decide) ?_
           | refine o_alloca (e := 102) (vs := Pe.zero.cs) rfl (by kernel_rfl) (by decide) fun g => ?_
           | refine o_alloca (e := 66) (vs := Pe.zero.cs) rfl (by kernel_rfl) (by decide) fun g => ?_
           | (refine z_isbin ?_; first
           | (refine z_isb .add ?_; first
           | refine o_add rfl rfl (by omega) (by omega) (by decide) ?_
           | refine o_addw rfl rfl (by decide) ?_)
           | (refine z_isb .eql ?_; first
           | refine o_eq rfl rfl (by decide) ?_
           | refine o_beq tabOk rfl rfl rfl (by decide) ?_
           | refine o_peq tabOk rfl rfl (by decide) ?_)
           | (refine z_isb .neq ?_; first
           | refine o_ne rfl rfl (by decide) ?_
           | refine o_bne tabOk rfl rfl rfl (by decide) ?_
           | refine o_pne tabOk rfl rfl (by decide) ?_)
           | (refine z_isb .leq ?_; first
           | refine o_le rfl rfl (by decide) ?_)
           | (refine z_isb .gtr ?_; first
           | refine o_gt rfl rfl (by decide) ?_))
           | (refine z_isload ?_; first
           | refine o_loadp tabOk rfl rfl rfl 0 rfl (pe_len _) (tcs_el _ (by omega)) (by decide) ?_
           | refine o_loadp tabOk rfl rfl rfl 1 rfl (pe_len _) (tcs_el _ (by omega)) (by decide) ?_
           | (refine z_ld1 tabOk rfl rfl ?_; first
           | refine o_loadm tabOk rfl rfl rfl (by repeat' (first | exact List.mem_cons_self | apply List.mem_cons_of_mem)) (by first | exact tcs_s _ (by omega) | exact tcs_p _ (by omega) | exact tcs_u _ (by omega) | exact pe_s _ | exact pe_p _ | exact pe_u _ | rfl) (by decide) ?_
           | refine o_loads tabOk (by first | assumption | exact Rds.cons _ (by assumption) | exact Rds.cons _ (Rds.cons _ (by assumption)) | exact own_rds 0 rfl | exact own_rds 1 rfl | exact own_rds 2 rfl) rfl rfl rfl (by first | exact tcs_s _ (by omega) | exact tcs_p _ (by omega) | exact tcs_u _ (by omega) | exact pe_s _ | exact pe_p _ | exact pe_u _ | rfl) (by decide) ?_)
           | (refine z_ldw tabOk rfl rfl ?_; first
           | refine o_loadwm tabOk rfl rfl rfl (by repeat' (first | exact List.mem_cons_self | apply List.mem_cons_of_mem)) (by first | exact tcs_len _ | exact pe_len _ | (simp only [tcs_len, pe_len]) | rfl) (by decide) ?_))
           | (refine z_isstore ?_; first
           | (refine o_storew_at rfl 0 tabOk rfl rfl rfl rfl (pe_len _) (pe_one _) (by rw [tcs_len, pe_len]; omega) (tcs_put _ (by omega) _) ?_)
           | (refine o_storew_at rfl 1 tabOk rfl rfl rfl rfl (pe_len _) (pe_one _) (by rw [tcs_len, pe_len]; omega) (tcs_put _ (by omega) _) ?_)
           | (refine z_stw rfl ?_; first
           | ((refine z_sti 0 rfl rfl ?_; refine o_storeb0 rfl tabOk rfl rfl rfl (by first | exact tcs_len _ | exact pe_len _ | (simp only [tcs_len, pe_len]) | rfl) (by first | exact tcs_one _ | exact pe_one _ | rfl) (by first | exact tcs_len _ | exact pe_len _ | (simp only [tcs_len, pe_len]) | rfl) ?_))
           | ((refine z_sti 1 rfl rfl ?_; refine o_storeb1 rfl tabOk rfl rfl rfl (by first | exact tcs_len _ | exact pe_len _ | (simp only [tcs_len, pe_len]) | rfl) (by first | exact tcs_one _ | exact pe_one _ | rfl) (by first | exact tcs_len _ | exact pe_len _ | (simp only [tcs_len, pe_len]) | rfl) ?_))
           | ((refine z_sti 2 rfl rfl ?_; refine o_storeb2 rfl tabOk rfl rfl rfl (by first | exact tcs_len _ | exact pe_len _ | (simp only [tcs_len, pe_len]) | rfl) (by first | exact tcs_one _ | exact pe_one _ | rfl) (by first | exact tcs_len _ | exact pe_len _ | (simp only [tcs_len, pe_len]) | rfl) ?_))
           | ((refine z_sti 3 rfl rfl ?_; refine o_storeb3 rfl tabOk rfl rfl rfl (by first | exact tcs_len _ | exact pe_len _ | (simp only [tcs_len, pe_len]) | rfl) (by first | exact tcs_one _ | exact pe_one _ | rfl) (by first | exact tcs_len _ | exact pe_len _ | (simp only [tcs_len, pe_len]) | rfl) ?_))
           | ((refine z_sti 4 rfl rfl ?_; refine o_storeb4 rfl tabOk rfl rfl rfl (by first | exact tcs_len _ | exact pe_len _ | (simp only [tcs_len, pe_len]) | rfl) (by first | exact tcs_one _ | exact pe_one _ | rfl) (by first | exact tcs_len _ | exact pe_len _ | (simp only [tcs_len, pe_len]) | rfl) ?_))
           | ((refine z_sti 5 rfl rfl ?_; refine o_storeb5 rfl tabOk rfl rfl rfl (by first | exact tcs_len _ | exact pe_len _ | (simp only [tcs_len, pe_len]) | rfl) (by first | exact tcs_one _ | exact pe_one _ | rfl) (by first | exact tcs_len _ | exact pe_len _ | (simp only [tcs_len, pe_len]) | rfl) ?_))
           | ((refine z_sti 6 rfl rfl ?_; refine o_storeb6 rfl tabOk rfl rfl rfl (by first | exact tcs_len _ | exact pe_len _ | (simp only [tcs_len, pe_len]) | rfl) (by first | exact tcs_one _ | exact pe_one _ | rfl) (by first | exact tcs_len _ | exact pe_len _ | (simp only [tcs_len, pe_len]) | rfl) ?_)))
           | (refine z_st1 rfl rfl ?_; first
           | refine o_store rfl tabOk rfl rfl rfl rfl rfl (by first | exact tcs_s _ (by omega) | exact tcs_p _ (by omega) | exact tcs_u _ (by omega) | exact pe_s _ | exact pe_p _ | exact pe_u _ | rfl) (by first | exact tcs_set_s _ (by omega) _ | exact tcs_set_p _ (by omega) _ | exact tcs_set_u _ (by omega) _ | rfl) ?_
           | ((refine z_sti 1 rfl rfl ?_; refine o_store1 rfl tabOk rfl rfl rfl rfl rfl (by first | exact tcs_s _ (by omega) | exact tcs_p _ (by omega) | exact tcs_u _ (by omega) | exact pe_s _ | exact pe_p _ | exact pe_u _ | rfl) (by first | exact tcs_set_s _ (by omega) _ | exact tcs_set_p _ (by omega) _ | exact tcs_set_u _ (by omega) _ | rfl) ?_))
           | ((refine z_sti 2 rfl rfl ?_; refine o_store2 rfl tabOk rfl rfl rfl rfl rfl (by first | exact tcs_s _ (by omega) | exact tcs_p _ (by omega) | exact tcs_u _ (by omega) | exact pe_s _ | exact pe_p _ | exact pe_u _ | rfl) (by first | exact tcs_set_s _ (by omega) _ | exact tcs_set_p _ (by omega) _ | exact tcs_set_u _ (by omega) _ | rfl) ?_))
           | ((refine z_sti 3 rfl rfl ?_; refine o_store3 rfl tabOk rfl rfl rfl rfl rfl (by first | exact tcs_s _ (by omega) | exact tcs_p _ (by omega) | exact tcs_u _ (by omega) | exact pe_s _ | exact pe_p _ | exact pe_u _ | rfl) (by first | exact tcs_set_s _ (by omega) _ | exact tcs_set_p _ (by omega) _ | exact tcs_set_u _ (by omega) _ | rfl) ?_))
           | ((refine z_sti 4 rfl rfl ?_; refine o_store4 rfl tabOk rfl rfl rfl rfl rfl (by first | exact tcs_s _ (by omega) | exact tcs_p _ (by omega) | exact tcs_u _ (by omega) | exact pe_s _ | exact pe_p _ | exact pe_u _ | rfl) (by first | exact tcs_set_s _ (by omega) _ | exact tcs_set_p _ (by omega) _ | exact tcs_set_u _ (by omega) _ | rfl) ?_))
           | ((refine z_sti 5 rfl rfl ?_; refine o_store5 rfl tabOk rfl rfl rfl rfl rfl (by first | exact tcs_s _ (by omega) | exact tcs_p _ (by omega) | exact tcs_u _ (by omega) | exact pe_s _ | exact pe_p _ | exact pe_u _ | rfl) (by first | exact tcs_set_s _ (by omega) _ | exact tcs_set_p _ (by omega) _ | exact tcs_set_u _ (by omega) _ | rfl) ?_))
           | ((refine z_sti 6 rfl rfl ?_; refine o_store6 rfl tabOk rfl rfl rfl rfl rfl (by first | exact tcs_s _ (by omega) | exact tcs_p _ (by omega) | exact tcs_u _ (by omega) | exact pe_s _ | exact pe_p _ | exact pe_u _ | rfl) (by first | exact tcs_set_s _ (by omega) _ | exact tcs_set_p _ (by omega) _ | exact tcs_set_u _ (by omega) _ | rfl) ?_))))
           | (refine z_iscall ?_; first
           | ((refine z_iscallf 54 ?_; refine o_callr rfl Try.func54 rfl rfl rfl (in_c _ _ _ _ (by first | exact cells_rds 0 rfl | exact cells_rds 1 rfl | exact cells_rds 2 rfl)) (by decide) ?_))
           | ((refine z_iscallf 57 ?_; refine o_callr rfl Try.func57 rfl rfl rfl (ralive_c _ _ _ _ (by first | exact cells_rds 0 rfl | exact cells_rds 1 rfl | exact cells_rds 2 rfl)) (by decide) ?_)))
           | (refine z_ispick ?_; first
           | (refine o_pick1 rfl (by first | with_reducible rfl | with_reducible assumption | ((with_reducible refine decide_eq_true ?_); first | with_reducible rfl | with_reducible assumption | omega)) rfl (by decide) ?_)
           | (refine o_pick0 rfl (by first | with_reducible rfl | with_reducible assumption | ((with_reducible refine decide_eq_false ?_); first | with_reducible assumption | omega)) rfl (by decide) ?_)
           | (refine o_pick1 rfl (by first | (simp only [Bool.not_eq_true', decide_eq_false_iff_not]; omega) | (with_reducible assumption) | (rw [decide_eq_false] <;> (first | omega | with_reducible rfl)) | (rw [decide_eq_true] <;> (first | omega | with_reducible rfl)) | (simp; done) | (simp; omega)) rfl (by decide) ?_)
           | (refine o_pick0 rfl (by first | (simp only [Bool.not_eq_false', decide_eq_true_eq]; omega) | (with_reducible assumption) | (rw [decide_eq_false] <;> (first | omega | with_reducible rfl)) | (rw [decide_eq_true] <;> (first | omega | with_reducible rfl)) | (simp; done) | (simp; omega)) rfl (by decide) ?_))
           | (refine z_isix ?_; first
           | refine o_index0 tabOk rfl rfl rfl rfl (by omega) (by omega) (by decide) ?_
           | refine o_index1 tabOk rfl rfl rfl rfl (by omega) (by omega) (by decide) ?_
           | refine o_indexsk1 tabOk rfl rfl rfl rfl (by omega) (by omega) (by decide) ?_
           | refine o_indexsk tabOk rfl rfl rfl rfl (by omega) (by omega) (by decide) ?_
           | refine o_indexs1 tabOk (by first | assumption) rfl rfl rfl rfl (by omega) (by omega) (by decide) ?_)
           | refine o_move rfl (by decide) ?_
           | refine o_assign rfl (by decide) ?_
           | refine o_nil rfl (by decide) ?_
           | refine o_extract rfl rfl (by decide) ?_
           | refine o_not rfl (by decide) ?_
           | refine o_field0 tabOk rfl rfl rfl rfl rfl (by decide) ?_
           | refine o_field tabOk rfl rfl rfl rfl rfl (by decide) ?_
           | refine o_conv tabOk rfl rfl rfl (by decide) ?_))
        · rw [stepB hA hB] at hs
          by_cases hB1 : (upd f ((k : Int)).toNat { f ((k : Int)).toNat with p := 1 } ((k : Int)).toNat).s = 2
          · have hB2 : ¬ (upd f ((k : Int)).toNat { f ((k : Int)).toNat with p := 1 } (Int.toNat 1)).s ≠ 1 := by
              have hB3 : inB (reP f k) 1 = true := by
                rcases Bool.eq_false_or_eq_true (inB (reP f k) 1) with h | h
                · exact h
                · exact absurd ⟨by rw [e3] at hB1; exact hB1, h⟩ hB
              rw [e3]
              exact fun h => h (in_iff.1 hB3).2.2
            repeat' (first
             | (refine s_is ?_; first
             | (refine s_isagain ?_; first
             | (exact c_again (k + 1) ⟨by omega, by omega⟩ (by omega) ⟨rfl, rfl, rfl, trivial⟩ (fun w h => by simp only [e3] at h; rw [hs]; exact h)))
             | (refine s_isw ?_; first
             | refine c_seq ?_
             | refine c_block ?_
             | refine c_region ?_
             | refine c_mixed mixed (by kernel_rfl) ?_
             | refine c_skip ?_
             | refine c_ret ?_
             | refine c_exit ?_
             | (refine s_iscond ?_; first
             | (refine c_true rfl (by first | with_reducible rfl | with_reducible assumption | ((with_reducible refine decide_eq_true ?_); first | with_reducible rfl | with_reducible assumption | omega)) ?_)
             | (refine c_false rfl (by first | with_reducible rfl | with_reducible assumption | ((with_reducible refine decide_eq_false ?_); first | with_reducible assumption | omega)) ?_)
             | (refine c_true rfl (by first | (simp only [Bool.not_eq_true', decide_eq_false_iff_not]; omega) | (with_reducible assumption) | (rw [decide_eq_false] <;> (first | omega | with_reducible rfl)) | (rw [decide_eq_true] <;> (first | omega | with_reducible rfl)) | (simp; done) | (simp; omega)) ?_)
             | (refine c_false rfl (by first | (simp only [Bool.not_eq_false', decide_eq_true_eq]; omega) | (with_reducible assumption) | (rw [decide_eq_false] <;> (first | omega | with_reducible rfl)) | (rw [decide_eq_true] <;> (first | omega | with_reducible rfl)) | (simp; done) | (simp; omega)) ?_)
             | refine c_cond rfl (fun hc => ?_) (fun hc => ?_)
             | refine c_condb rfl (fun hc => ?_) (fun hc => ?_)))
             | refine x_then ?_
             | refine x_then_ret ?_
             | refine x_then_exit ?_
             | refine x_block _ ?_
             | refine x_block_ret _ ?_
             | refine x_block_exit _ ?_
             | refine x_block_past (by decide) ?_
             | refine z_tailm ?_)
             | (refine z_isg1 ?_; first
             | refine z_skipu (by decide) rfl rfl ?_
             | (refine z_want1 rfl rfl (by first | with_reducible rfl | with_reducible assumption | ((with_reducible refine decide_eq_true ?_); first | with_reducible rfl | with_reducible assumption | omega)) ?_)
             | (refine z_skip1 (by decide) rfl rfl (by first | with_reducible rfl | with_reducible assumption | ((with_reducible refine decide_eq_false ?_); first | with_reducible assumption | omega)) ?_)
             | (refine z_want1 rfl rfl (by first | (simp only [Bool.not_eq_true', decide_eq_false_iff_not]; omega) | (with_reducible assumption) | (rw [decide_eq_false] <;> (first | omega | with_reducible rfl)) | (rw [decide_eq_true] <;> (first | omega | with_reducible rfl)) | (simp; done) | (simp; omega)) ?_)
             | (refine z_skip1 (by decide) rfl rfl (by first | (simp only [Bool.not_eq_false', decide_eq_true_eq]; omega) | (with_reducible assumption) | (rw [decide_eq_false] <;> (first | omega | with_reducible rfl)) | (rw [decide_eq_true] <;> (first | omega | with_reducible rfl)) | (simp; done) | (simp; omega)) ?_)
             | refine z_guard1 (by decide) rfl rfl (fun hc => ?_) (fun hc => ?_)
             | refine z_guardb (by decide) rfl rfl (fun hc => ?_) (fun hc => ?_))
             | (refine z_isnil ?_; first
             | refine z_list ?_
             | refine z_mixed ?_
             | refine z_mono0 ?_
             | refine z_mono1 (by decide) fun g => ?_
             | refine z_mono2 (by decide) (by decide) fun g g' => ?_
             | refine z_mixedx ?_
             | refine z_quiet ?_)
             | (refine z_isop ?_; first
             | refine o_indexm tabOk rfl rfl rfl rfl (by omega) (by omega) (by decide) ?_
             | refine o_build0 (t := 102) (v := .agg Pe.zero.cs.toArray) (fun _ => by kernel_rfl) (by decide) ?_
             | refine o_build0 (t := 66) (v := .agg Pe.zero.cs.toArray) (fun _ => by kernel_rfl) (by decide) ?_
             | refine o_alloca (e := 102) (vs := Pe.zero.cs) rfl (by kernel_rfl) (by decide) fun g => ?_
             | refine o_alloca (e := 66) (vs := Pe.zero.cs) rfl (by kernel_rfl) (by decide) fun g => ?_
             | (refine z_isbin ?_; first
             | (refine z_isb .add ?_; first
             | refine o_add rfl rfl (by omega) (by omega) (by decide) ?_
             | refine o_addw rfl rfl (by decide) ?_)
             | (refine z_isb .eql ?_; first
             | refine o_eq rfl rfl (by decide) ?_
             | refine o_beq tabOk rfl rfl rfl (by decide) ?_
             | refine o_peq tabOk rfl rfl (by decide) ?_)
             | (refine z_isb .neq ?_; first
             | refine o_ne rfl rfl (by decide) ?_
             | refine o_bne tabOk rfl rfl rfl (by decide) ?_
             | refine o_pne tabOk rfl rfl (by decide) ?_)
             | (refine z_isb .leq ?_; first
             | refine o_le rfl rfl (by decide) ?_)
             | (refine z_isb .gtr ?_; first
             | refine o_gt rfl rfl (by decide) ?_))
             | (refine z_isload ?_; first
             | refine o_loadp tabOk rfl rfl rfl 0 rfl (pe_len _) (tcs_el _ (by omega)) (by decide) ?_
             | refine o_loadp tabOk rfl rfl rfl 1 rfl (pe_len _) (tcs_el _ (by omega)) (by decide) ?_
             | (refine z_ld1 tabOk rfl rfl ?_; first
             | refine o_loadm tabOk rfl rfl rfl (by repeat' (first | exact List.mem_cons_self | apply List.mem_cons_of_mem)) (by first | exact tcs_s _ (by omega) | exact tcs_p _ (by omega) | exact tcs_u _ (by omega) | exact pe_s _ | exact pe_p _ | exact pe_u _ | rfl) (by decide) ?_
             | refine o_loads tabOk (by first | assumption | exact Rds.cons _ (by assumption) | exact Rds.cons _ (Rds.cons _ (by assumption)) | exact own_rds 0 rfl | exact own_rds 1 rfl | exact own_rds 2 rfl) rfl rfl rfl (by first | exact tcs_s _ (by omega) | exact tcs_p _ (by omega) | exact tcs_u _ (by omega) | exact pe_s _ | exact pe_p _ | exact pe_u _ | rfl) (by decide) ?_)
             | (refine z_ldw tabOk rfl rfl ?_; first
             | refine o_loadwm tabOk rfl rfl rfl (by repeat' (first | exact List.mem_cons_self | apply List.mem_cons_of_mem)) (by first | exact tcs_len _ | exact pe_len _ | (simp only [tcs_len, pe_len]) | rfl) (by decide) ?_))
             | (refine z_isstore ?_; first
             | (refine o_storew_at rfl 0 tabOk rfl rfl rfl rfl (pe_len _) (pe_one _) (by rw [tcs_len, pe_len]; omega) (tcs_put _ (by omega) _) ?_)
             | (refine o_storew_at rfl 1 tabOk rfl rfl rfl rfl (pe_len _) (pe_one _) (by rw [tcs_len, pe_len]; omega) (tcs_put _ (by omega) _) ?_)
             | (refine z_stw rfl ?_; first
             | ((refine z_sti 0 rfl rfl ?_; refine o_storeb0 rfl tabOk rfl rfl rfl (by first | exact tcs_len _ | exact pe_len _ | (simp only [tcs_len, pe_len]) | rfl) (by first | exact tcs_one _ | exact pe_one _ | rfl) (by first | exact tcs_len _ | exact pe_len _ | (simp only [tcs_len, pe_len]) | rfl) ?_))
             | ((refine z_sti 1 rfl rfl ?_; refine o_storeb1 rfl tabOk rfl rfl rfl (by first | exact tcs_len _ | exact pe_len _ | (simp only [tcs_len, pe_len]) | rfl) (by first | exact tcs_one _ | exact pe_one _ | rfl) (by first | exact tcs_len _ | exact pe_len _ | (simp only [tcs_len, pe_len]) | rfl) ?_))
             | ((refine z_sti 2 rfl rfl ?_; refine o_storeb2 rfl tabOk rfl rfl rfl (by first | exact tcs_len _ | exact pe_len _ | (simp only [tcs_len, pe_len]) | rfl) (by first | exact tcs_one _ | exact pe_one _ | rfl) (by first | exact tcs_len _ | exact pe_len _ | (simp only [tcs_len, pe_len]) | rfl) ?_))
             | ((refine z_sti 3 rfl rfl ?_; refine o_storeb3 rfl tabOk rfl rfl rfl (by first | exact tcs_len _ | exact pe_len _ | (simp only [tcs_len, pe_len]) | rfl) (by first | exact tcs_one _ | exact pe_one _ | rfl) (by first | exact tcs_len _ | exact pe_len _ | (simp only [tcs_len, pe_len]) | rfl) ?_))
             | ((refine z_sti 4 rfl rfl ?_; refine o_storeb4 rfl tabOk rfl rfl rfl (by first | exact tcs_len _ | exact pe_len _ | (simp only [tcs_len, pe_len]) | rfl) (by first | exact tcs_one _ | exact pe_one _ | rfl) (by first | exact tcs_len _ | exact pe_len _ | (simp only [tcs_len, pe_len]) | rfl) ?_))
             | ((refine z_sti 5 rfl rfl ?_; refine o_storeb5 rfl tabOk rfl rfl rfl (by first | exact tcs_len _ | exact pe_len _ | (simp only [tcs_len, pe_len]) | rfl) (by first | exact tcs_one _ | exact pe_one _ | rfl) (by first | exact tcs_len _ | exact pe_len _ | (simp only [tcs_len, pe_len]) | rfl) ?_))
             | ((refine z_sti 6 rfl rfl ?_; refine o_storeb6 rfl tabOk rfl rfl rfl (by first | exact tcs_len _ | exact pe_len _ | (simp only [tcs_len, pe_len]) | rfl) (by first | exact tcs_one _ | exact pe_one _ | rfl) (by first | exact tcs_len _ | exact pe_len _ | (simp only [tcs_len, pe_len]) | rfl) ?_)))
             | (refine z_st1 rfl rfl ?_; first
             | refine o_store rfl tabOk rfl rfl rfl rfl rfl (by first | exact tcs_s _ (by omega) | exact tcs_p _ (by omega) | exact tcs_u _ (by omega) | exact pe_s _ | exact pe_p _ | exact pe_u _ | rfl) (by first | exact tcs_set_s _ (by omega) _ | exact tcs_set_p _ (by omega) _ | exact tcs_set_u _ (by omega) _ | rfl) ?_
             | ((refine z_sti 1 rfl rfl ?_; refine o_store1 rfl tabOk rfl rfl rfl rfl rfl (by first | exact tcs_s _ (by omega) | exact tcs_p _ (by omega) | exact tcs_u _ (by omega) | exact pe_s _ | exact pe_p _ | exact pe_u _ | rfl) (by first | exact tcs_set_s _ (by omega) _ | exact tcs_set_p _ (by omega) _ | exact tcs_set_u _ (by omega) _ | rfl) ?_))
             | ((refine z_sti 2 rfl rfl ?_; refine o_store2 rfl tabOk rfl rfl rfl rfl rfl (by first | exact tcs_s _ (by omega) | exact tcs_p _ (by omega) | exact tcs_u _ (by omega) | exact pe_s _ | exact pe_p _ | exact pe_u _ | rfl) (by first | exact tcs_set_s _ (by omega) _ | exact tcs_set_p _ (by omega) _ | exact tcs_set_u _ (by omega) _ | rfl) ?_))
             | ((refine z_sti 3 rfl rfl ?_; refine o_store3 rfl tabOk rfl rfl rfl rfl rfl (by first | exact tcs_s _ (by omega) | exact tcs_p _ (by omega) | exact tcs_u _ (by omega) | exact pe_s _ | exact pe_p _ | exact pe_u _ | rfl) (by first | exact tcs_set_s _ (by omega) _ | exact tcs_set_p _ (by omega) _ | exact tcs_set_u _ (by omega) _ | rfl) ?_))
             | ((refine z_sti 4 rfl rfl ?_; refine o_store4 rfl tabOk rfl rfl rfl rfl rfl (by first | exact tcs_s _ (by omega) | exact tcs_p _ (by omega) | exact tcs_u _ (by omega) | exact pe_s _ | exact pe_p _ | exact pe_u _ | rfl) (by first | exact tcs_set_s _ (by omega) _ | exact tcs_set_p _ (by omega) _ | exact tcs_set_u _ (by omega) _ | rfl) ?_))
             | ((refine z_sti 5 rfl rfl ?_; refine o_store5 rfl tabOk rfl rfl rfl rfl rfl (by first | exact tcs_s _ (by omega) | exact tcs_p _ (by omega) | exact tcs_u _ (by omega) | exact pe_s _ | exact pe_p _ | exact pe_u _ | rfl) (by first | exact tcs_set_s _ (by omega) _ | exact tcs_set_p _ (by omega) _ | exact tcs_set_u _ (by omega) _ | rfl) ?_))
             | ((refine z_sti 6 rfl rfl ?_; refine o_store6 rfl tabOk rfl rfl rfl rfl rfl (by first | exact tcs_s _ (by omega) | exact tcs_p _ (by omega) | exact tcs_u _ (by omega) | exact pe_s _ | exact pe_p _ | exact pe_u _ | rfl) (by first | exact tcs_set_s _ (by omega) _ | exact tcs_set_p _ (by omega) _ | exact tcs_set_u _ (by omega) _ | rfl) ?_))))
             | (refine z_iscall ?_; first
             | ((refine z_iscallf 54 ?_; refine o_callr rfl Try.func54 rfl rfl rfl (in_c _ _ _ _ (by first | exact cells_rds 0 rfl | exact cells_rds 1 rfl | exact cells_rds 2 rfl)) (by decide) ?_))
             | ((refine z_iscallf 57 ?_; refine o_callr rfl Try.func57 rfl rfl rfl (ralive_c _ _ _ _ (by first | exact cells_rds 0 rfl | exact cells_rds 1 rfl | exact cells_rds 2 rfl)) (by decide) ?_)))
             | (refine z_ispick ?_; first
             | (refine o_pick1 rfl (by first | with_reducible rfl | with_reducible assumption | ((with_reducible refine decide_eq_true ?_); first | with_reducible rfl | with_reducible assumption | omega)) rfl (by decide) ?_)
             | (refine o_pick0 rfl (by first | with_reducible rfl | with_reducible assumption | ((with_reducible refine decide_eq_false ?_); first | with_reducible assumption | omega)) rfl (by decide) ?_)
             | (refine o_pick1 rfl (by first | (simp only [Bool.not_eq_true', decide_eq_false_iff_not]; omega) | (with_reducible assumption) | (rw [decide_eq_false] <;> (first | omega | with_reducible rfl)) | (rw [decide_eq_true] <;> (first | omega | with_reducible rfl)) | (simp; done) | (simp; omega)) rfl (by decide) ?_)
             | (refine o_pick0 rfl (by first | (simp only [Bool.not_eq_false', decide_eq_true_eq]; omega) | (with_reducible assumption) | (rw [decide_eq_false] <;> (first | omega | with_reducible rfl)) | (rw [decide_eq_true] <;> (first | omega | with_reducible rfl)) | (simp; done) | (simp; omega)) rfl (by decide) ?_))
             | (refine z_isix ?_; first
             | refine o_index0 tabOk rfl rfl rfl rfl (by omega) (by omega) (by decide) ?_
             | refine o_index1 tabOk rfl rfl rfl rfl (by omega) (by omega) (by decide) ?_
             | refine o_indexsk1 tabOk rfl rfl rfl rfl (by omega) (by omega) (by decide) ?_
             | refine o_indexsk tabOk rfl rfl rfl rfl (by omega) (by omega) (by decide) ?_
             | refine o_indexs1 tabOk (by first | assumption) rfl rfl rfl rfl (by omega) (by omega) (by decide) ?_)
             | refine o_move rfl (by decide) ?_
             | refine o_assign rfl (by decide) ?_
             | refine o_nil rfl (by decide) ?_
             | refine o_extract rfl rfl (by decide) ?_
             | refine o_not rfl (by decide) ?_
             | refine o_field0 tabOk rfl rfl rfl rfl rfl (by decide) ?_
             | refine o_field tabOk rfl rfl rfl rfl rfl (by decide) ?_
             | refine o_conv tabOk rfl rfl rfl (by decide) ?_))
          · skip
            repeat' (first
             | (refine s_is ?_; first
             | (refine s_isagain ?_; first
             | (exact c_again (k + 1) ⟨by omega, by omega⟩ (by omega) ⟨rfl, rfl, rfl, trivial⟩ (fun w h => by simp only [e3] at h; rw [hs]; exact h)))
             | (refine s_isw ?_; first
             | refine c_seq ?_
             | refine c_block ?_
             | refine c_region ?_
             | refine c_mixed mixed (by kernel_rfl) ?_
             | refine c_skip ?_
             | refine c_ret ?_
             | refine c_exit ?_
             | (refine s_iscond ?_; first
             | (refine c_true rfl (by first | with_reducible rfl | with_reducible assumption | ((with_reducible refine decide_eq_true ?_); first | with_reducible rfl | with_reducible assumption | omega)) ?_)
             | (refine c_false rfl (by first | with_reducible rfl | with_reducible assumption | ((with_reducible refine decide_eq_false ?_); first | with_reducible assumption | omega)) ?_)
             | (refine c_true rfl (by first | (simp only [Bool.not_eq_true', decide_eq_false_iff_not]; omega) | (with_reducible assumption) | (rw [decide_eq_false] <;> (first | omega | with_reducible rfl)) | (rw [decide_eq_true] <;> (first | omega | with_reducible rfl)) | (simp; done) | (simp; omega)) ?_)
             | (refine c_false rfl (by first | (simp only [Bool.not_eq_false', decide_eq_true_eq]; omega) | (with_reducible assumption) | (rw [decide_eq_false] <;> (first | omega | with_reducible rfl)) | (rw [decide_eq_true] <;> (first | omega | with_reducible rfl)) | (simp; done) | (simp; omega)) ?_)
             | refine c_cond rfl (fun hc => ?_) (fun hc => ?_)
             | refine c_condb rfl (fun hc => ?_) (fun hc => ?_)))
             | refine x_then ?_
             | refine x_then_ret ?_
             | refine x_then_exit ?_
             | refine x_block _ ?_
             | refine x_block_ret _ ?_
             | refine x_block_exit _ ?_
             | refine x_block_past (by decide) ?_
             | refine z_tailm ?_)
             | (refine z_isg1 ?_; first
             | refine z_skipu (by decide) rfl rfl ?_
             | (refine z_want1 rfl rfl (by first | with_reducible rfl | with_reducible assumption | ((with_reducible refine decide_eq_true ?_); first | with_reducible rfl | with_reducible assumption | omega)) ?_)
             | (refine z_skip1 (by decide) rfl rfl (by first | with_reducible rfl | with_reducible assumption | ((with_reducible refine decide_eq_false ?_); first | with_reducible assumption | omega)) ?_)
             | (refine z_want1 rfl rfl (by first | (simp only [Bool.not_eq_true', decide_eq_false_iff_not]; omega) | (with_reducible assumption) | (rw [decide_eq_false] <;> (first | omega | with_reducible rfl)) | (rw [decide_eq_true] <;> (first | omega | with_reducible rfl)) | (simp; done) | (simp; omega)) ?_)
             | (refine z_skip1 (by decide) rfl rfl (by first | (simp only [Bool.not_eq_false', decide_eq_true_eq]; omega) | (with_reducible assumption) | (rw [decide_eq_false] <;> (first | omega | with_reducible rfl)) | (rw [decide_eq_true] <;> (first | omega | with_reducible rfl)) | (simp; done) | (simp; omega)) ?_)
             | refine z_guard1 (by decide) rfl rfl (fun hc => ?_) (fun hc => ?_)
             | refine z_guardb (by decide) rfl rfl (fun hc => ?_) (fun hc => ?_))
             | (refine z_isnil ?_; first
             | refine z_list ?_
             | refine z_mixed ?_
             | refine z_mono0 ?_
             | refine z_mono1 (by decide) fun g => ?_
             | refine z_mono2 (by decide) (by decide) fun g g' => ?_
             | refine z_mixedx ?_
             | refine z_quiet ?_)
             | (refine z_isop ?_; first
             | refine o_indexm tabOk rfl rfl rfl rfl (by omega) (by omega) (by decide) ?_
             | refine o_build0 (t := 102) (v := .agg Pe.zero.cs.toArray) (fun _ => by kernel_rfl) (by decide) ?_
             | refine o_build0 (t := 66) (v := .agg Pe.zero.cs.toArray) (fun _ => by kernel_rfl) (by decide) ?_
             | refine o_alloca (e := 102) (vs := Pe.zero.cs) rfl (by kernel_rfl) (by decide) fun g => ?_
             | refine o_alloca (e := 66) (vs := Pe.zero.cs) rfl (by kernel_rfl) (by decide) fun g => ?_
             | (refine z_isbin ?_; first
             | (refine z_isb .add ?_; first
             | refine o_add rfl rfl (by omega) (by omega) (by decide) ?_
             | refine o_addw rfl rfl (by decide) ?_)
             | (refine z_isb .eql ?_; first
             | refine o_eq rfl rfl (by decide) ?_
             | refine o_beq tabOk rfl rfl rfl (by decide) ?_
             | refine o_peq tabOk rfl rfl (by decide) ?_)
             | (refine z_isb .neq ?_; first
             | refine o_ne rfl rfl (by decide) ?_
             | refine o_bne tabOk rfl rfl rfl (by decide) ?_
             | refine o_pne tabOk rfl rfl (by decide) ?_)
             | (refine z_isb .leq ?_; first
             | refine o_le rfl rfl (by decide) ?_)
             | (refine z_isb .gtr ?_; first
             | refine o_gt rfl rfl (by decide) ?_))
             | (refine z_isload ?_; first
             | refine o_loadp tabOk rfl rfl rfl 0 rfl (pe_len _) (tcs_el _ (by omega)) (by decide) ?_
             | refine o_loadp tabOk rfl rfl rfl 1 rfl (pe_len _) (tcs_el _ (by omega)) (by decide) ?_
             | (refine z_ld1 tabOk rfl rfl ?_; first
             | refine o_loadm tabOk rfl rfl rfl (by repeat' (first | exact List.mem_cons_self | apply List.mem_cons_of_mem)) (by first | exact tcs_s _ (by omega) | exact tcs_p _ (by omega) | exact tcs_u _ (by omega) | exact pe_s _ | exact pe_p _ | exact pe_u _ | rfl) (by decide) ?_
             | refine o_loads tabOk (by first | assumption | exact Rds.cons _ (by assumption) | exact Rds.cons _ (Rds.cons _ (by assumption)) | exact own_rds 0 rfl | exact own_rds 1 rfl | exact own_rds 2 rfl) rfl rfl rfl (by first | exact tcs_s _ (by omega) | exact tcs_p _ (by omega) | exact tcs_u _ (by omega) | exact pe_s _ | exact pe_p _ | exact pe_u _ | rfl) (by decide) ?_)
             | (refine z_ldw tabOk rfl rfl ?_; first
             | refine o_loadwm tabOk rfl rfl rfl (by repeat' (first | exact List.mem_cons_self | apply List.mem_cons_of_mem)) (by first | exact tcs_len _ | exact pe_len _ | (simp only [tcs_len, pe_len]) | rfl) (by decide) ?_))
             | (refine z_isstore ?_; first
             | (refine o_storew_at rfl 0 tabOk rfl rfl rfl rfl (pe_len _) (pe_one _) (by rw [tcs_len, pe_len]; omega) (tcs_put _ (by omega) _) ?_)
             | (refine o_storew_at rfl 1 tabOk rfl rfl rfl rfl (pe_len _) (pe_one _) (by rw [tcs_len, pe_len]; omega) (tcs_put _ (by omega) _) ?_)
             | (refine z_stw rfl ?_; first
             | ((refine z_sti 0 rfl rfl ?_; refine o_storeb0 rfl tabOk rfl rfl rfl (by first | exact tcs_len _ | exact pe_len _ | (simp only [tcs_len, pe_len]) | rfl) (by first | exact tcs_one _ | exact pe_one _ | rfl) (by first | exact tcs_len _ | exact pe_len _ | (simp only [tcs_len, pe_len]) | rfl) ?_))
             | ((refine z_sti 1 rfl rfl ?_; refine o_storeb1 rfl tabOk rfl rfl rfl (by first | exact tcs_len _ | exact pe_len _ | (simp only [tcs_len, pe_len]) | rfl) (by first | exact tcs_one _ | exact pe_one _ | rfl) (by first | exact tcs_len _ | exact pe_len _ | (simp only [tcs_len, pe_len]) | rfl) ?_))
             | ((refine z_sti 2 rfl rfl ?_; refine o_storeb2 rfl tabOk rfl rfl rfl (by first | exact tcs_len _ | exact pe_len _ | (simp only [tcs_len, pe_len]) | rfl) (by first | exact tcs_one _ | exact pe_one _ | rfl) (by first | exact tcs_len _ | exact pe_len _ | (simp only [tcs_len, pe_len]) | rfl) ?_))
             | ((refine z_sti 3 rfl rfl ?_; refine o_storeb3 rfl tabOk rfl rfl rfl (by first | exact tcs_len _ | exact pe_len _ | (simp only [tcs_len, pe_len]) | rfl) (by first | exact tcs_one _ | exact pe_one _ | rfl) (by first | exact tcs_len _ | exact pe_len _ | (simp only [tcs_len, pe_len]) | rfl) ?_))
             | ((refine z_sti 4 rfl rfl ?_; refine o_storeb4 rfl tabOk rfl rfl rfl (by first | exact tcs_len _ | exact pe_len _ | (simp only [tcs_len, pe_len]) | rfl) (by first | exact tcs_one _ | exact pe_one _ | rfl) (by first | exact tcs_len _ | exact pe_len _ | (simp only [tcs_len, pe_len]) | rfl) ?_))
             | ((refine z_sti 5 rfl rfl ?_; refine o_storeb5 rfl tabOk rfl rfl rfl (by first | exact tcs_len _ | exact pe_len _ | (simp only [tcs_len, pe_len]) | rfl) (by first | exact tcs_one _ | exact pe_one _ | rfl) (by first | exact tcs_len _ | exact pe_len _ | (simp only [tcs_len, pe_len]) | rfl) ?_))
             | ((refine z_sti 6 rfl rfl ?_; refine o_storeb6 rfl tabOk rfl rfl rfl (by first | exact tcs_len _ | exact pe_len _ | (simp only [tcs_len, pe_len]) | rfl) (by first | exact tcs_one _ | exact pe_one _ | rfl) (by first | exact tcs_len _ | exact pe_len _ | (simp only [tcs_len, pe_len]) | rfl) ?_)))
             | (refine z_st1 rfl rfl ?_; first
             | refine o_store rfl tabOk rfl rfl rfl rfl rfl (by first | exact tcs_s _ (by omega) | exact tcs_p _ (by omega) | exact tcs_u _ (by omega) | exact pe_s _ | exact pe_p _ | exact pe_u _ | rfl) (by first | exact tcs_set_s _ (by omega) _ | exact tcs_set_p _ (by omega) _ | exact tcs_set_u _ (by omega) _ | rfl) ?_
             | ((refine z_sti 1 rfl rfl ?_; refine o_store1 rfl tabOk rfl rfl rfl rfl rfl (by first | exact tcs_s _ (by omega) | exact tcs_p _ (by omega) | exact tcs_u _ (by omega) | exact pe_s _ | exact pe_p _ | exact pe_u _ | rfl) (by first | exact tcs_set_s _ (by omega) _ | exact tcs_set_p _ (by omega) _ | exact tcs_set_u _ (by omega) _ | rfl) ?_))
             | ((refine z_sti 2 rfl rfl ?_; refine o_store2 rfl tabOk rfl rfl rfl rfl rfl (by first | exact tcs_s _ (by omega) | exact tcs_p _ (by omega) | exact tcs_u _ (by omega) | exact pe_s _ | exact pe_p _ | exact pe_u _ | rfl) (by first | exact tcs_set_s _ (by omega) _ | exact tcs_set_p _ (by omega) _ | exact tcs_set_u _ (by omega) _ | rfl) ?_))
             | ((refine z_sti 3 rfl rfl ?_; refine o_store3 rfl tabOk rfl rfl rfl rfl rfl (by first | exact tcs_s _ (by omega) | exact tcs_p _ (by omega) | exact tcs_u _ (by omega) | exact pe_s _ | exact pe_p _ | exact pe_u _ | rfl) (by first | exact tcs_set_s _ (by omega) _ | exact tcs_set_p _ (by omega) _ | exact tcs_set_u _ (by omega) _ | rfl) ?_))
             | ((refine z_sti 4 rfl rfl ?_; refine o_store4 rfl tabOk rfl rfl rfl rfl rfl (by first | exact tcs_s _ (by omega) | exact tcs_p _ (by omega) | exact tcs_u _ (by omega) | exact pe_s _ | exact pe_p _ | exact pe_u _ | rfl) (by first | exact tcs_set_s _ (by omega) _ | exact tcs_set_p _ (by omega) _ | exact tcs_set_u _ (by omega) _ | rfl) ?_))
             | ((refine z_sti 5 rfl rfl ?_; refine o_store5 rfl tabOk rfl rfl rfl rfl rfl (by first | exact tcs_s _ (by omega) | exact tcs_p _ (by omega) | exact tcs_u _ (by omega) | exact pe_s _ | exact pe_p _ | exact pe_u _ | rfl) (by first | exact tcs_set_s _ (by omega) _ | exact tcs_set_p _ (by omega) _ | exact tcs_set_u _ (by omega) _ | rfl) ?_))
             | ((refine z_sti 6 rfl rfl ?_; refine o_store6 rfl tabOk rfl rfl rfl rfl rfl (by first | exact tcs_s _ (by omega) | exact tcs_p _ (by omega) | exact tcs_u _ (by omega) | exact pe_s _ | exact pe_p _ | exact pe_u _ | rfl) (by first | exact tcs_set_s _ (by omega) _ | exact tcs_set_p _ (by omega) _ | exact tcs_set_u _ (by omega) _ | rfl) ?_))))
             | (refine z_iscall ?_; first
             | ((refine z_iscallf 54 ?_; refine o_callr rfl Try.func54 rfl rfl rfl (in_c _ _ _ _ (by first | exact cells_rds 0 rfl | exact cells_rds 1 rfl | exact cells_rds 2 rfl)) (by decide) ?_))
             | ((refine z_iscallf 57 ?_; refine o_callr rfl Try.func57 rfl rfl rfl (ralive_c _ _ _ _ (by first | exact cells_rds 0 rfl | exact cells_rds 1 rfl | exact cells_rds 2 rfl)) (by decide) ?_)))
             | (refine z_ispick ?_; first
             | (refine o_pick1 rfl (by first | with_reducible rfl | with_reducible assumption | ((with_reducible refine decide_eq_true ?_); first | with_reducible rfl | with_reducible assumption | omega)) rfl (by decide) ?_)
             | (refine o_pick0 rfl (by first | with_reducible rfl | with_reducible assumption | ((with_reducible refine decide_eq_false ?_); first | with_reducible assumption | omega)) rfl (by decide) ?_)
             | (refine o_pick1 rfl (by first | (simp only [Bool.not_eq_true', decide_eq_false_iff_not]; omega) | (with_reducible assumption) | (rw [decide_eq_false] <;> (first | omega | with_reducible rfl)) | (rw [decide_eq_true] <;> (first | omega | with_reducible rfl)) | (simp; done) | (simp; omega)) rfl (by decide) ?_)
             | (refine o_pick0 rfl (by first | (simp only [Bool.not_eq_false', decide_eq_true_eq]; omega) | (with_reducible assumption) | (rw [decide_eq_false] <;> (first | omega | with_reducible rfl)) | (rw [decide_eq_true] <;> (first | omega | with_reducible rfl)) | (simp; done) | (simp; omega)) rfl (by decide) ?_))
             | (refine z_isix ?_; first
             | refine o_index0 tabOk rfl rfl rfl rfl (by omega) (by omega) (by decide) ?_
             | refine o_index1 tabOk rfl rfl rfl rfl (by omega) (by omega) (by decide) ?_
             | refine o_indexsk1 tabOk rfl rfl rfl rfl (by omega) (by omega) (by decide) ?_
             | refine o_indexsk tabOk rfl rfl rfl rfl (by omega) (by omega) (by decide) ?_
             | refine o_indexs1 tabOk (by first | assumption) rfl rfl rfl rfl (by omega) (by omega) (by decide) ?_)
             | refine o_move rfl (by decide) ?_
             | refine o_assign rfl (by decide) ?_
             | refine o_nil rfl (by decide) ?_
             | refine o_extract rfl rfl (by decide) ?_
             | refine o_not rfl (by decide) ?_
             | refine o_field0 tabOk rfl rfl rfl rfl rfl (by decide) ?_
             | refine o_field tabOk rfl rfl rfl rfl rfl (by decide) ?_
             | refine o_conv tabOk rfl rfl rfl (by decide) ?_))
      · rw [stepA hA] at hs
        by_cases hA1 : 0 < (f ((k : Int)).toNat).s
        · have hA2 : (f ((k : Int)).toNat).p ≠ i := fun h => hA ⟨by rw [e3] at hA1; omega, by rw [e3] at h; exact h⟩
          repeat' (first
           | (refine s_is ?_; first
           | (refine s_isagain ?_; first
           | (exact c_again (k + 1) ⟨by omega, by omega⟩ (by omega) ⟨rfl, rfl, rfl, trivial⟩ (fun w h => by rw [hs]; exact h)))
           | (refine s_isw ?_; first
           | refine c_seq ?_
           | refine c_block ?_
           | refine c_region ?_
           | refine c_mixed mixed (by kernel_rfl) ?_
           | refine c_skip ?_
           | refine c_ret ?_
           | refine c_exit ?_
           | (refine s_iscond ?_; first
           | (refine c_true rfl (by first | with_reducible rfl | with_reducible assumption | ((with_reducible refine decide_eq_true ?_); first | with_reducible rfl | with_reducible assumption | omega)) ?_)
           | (refine c_false rfl (by first | with_reducible rfl | with_reducible assumption | ((with_reducible refine decide_eq_false ?_); first | with_reducible assumption | omega)) ?_)
           | (refine c_true rfl (by first | (simp only [Bool.not_eq_true', decide_eq_false_iff_not]; omega) | (with_reducible assumption) | (rw [decide_eq_false] <;> (first | omega | with_reducible rfl)) | (rw [decide_eq_true] <;> (first | omega | with_reducible rfl)) | (simp; done) | (simp; omega)) ?_)
           | (refine c_false rfl (by first | (simp only [Bool.not_eq_false', decide_eq_true_eq]; omega) | (with_reducible assumption) | (rw [decide_eq_false] <;> (first | omega | with_reducible rfl)) | (rw [decide_eq_true] <;> (first | omega | with_reducible rfl)) | (simp; done) | (simp; omega)) ?_)
           | refine c_cond rfl (fun hc => ?_) (fun hc => ?_)
           | refine c_condb rfl (fun hc => ?_) (fun hc => ?_)))
           | refine x_then ?_
           | refine x_then_ret ?_
           | refine x_then_exit ?_
           | refine x_block _ ?_
           | refine x_block_ret _ ?_
           | refine x_block_exit _ ?_
           | refine x_block_past (by decide) ?_
           | refine z_tailm ?_)
           | (refine z_isg1 ?_; first
           | refine z_skipu (by decide) rfl rfl ?_
           | (refine z_want1 rfl rfl (by first | with_reducible rfl | with_reducible assumption | ((with_reducible refine decide_eq_true ?_); first | with_reducible rfl | with_reducible assumption | omega)) ?_)
           | (refine z_skip1 (by decide) rfl rfl (by first | with_reducible rfl | with_reducible assumption | ((with_reducible refine decide_eq_false ?_); first | with_reducible assumption | omega)) ?_)
           | (refine z_want1 rfl rfl (by first | (simp only [Bool.not_eq_true', decide_eq_false_iff_not]; omega) | (with_reducible assumption) | (rw [decide_eq_false] <;> (first | omega | with_reducible rfl)) | (rw [decide_eq_true] <;> (first | omega | with_reducible rfl)) | (simp; done) | (simp; omega)) ?_)
           | (refine z_skip1 (by decide) rfl rfl (by first | (simp only [Bool.not_eq_false', decide_eq_true_eq]; omega) | (with_reducible assumption) | (rw [decide_eq_false] <;> (first | omega | with_reducible rfl)) | (rw [decide_eq_true] <;> (first | omega | with_reducible rfl)) | (simp; done) | (simp; omega)) ?_)
           | refine z_guard1 (by decide) rfl rfl (fun hc => ?_) (fun hc => ?_)
           | refine z_guardb (by decide) rfl rfl (fun hc => ?_) (fun hc => ?_))
           | (refine z_isnil ?_; first
           | refine z_list ?_
           | refine z_mixed ?_
           | refine z_mono0 ?_
           | refine z_mono1 (by decide) fun g => ?_
           | refine z_mono2 (by decide) (by decide) fun g g' => ?_
           | refine z_mixedx ?_
           | refine z_quiet ?_)
           | (refine z_isop ?_; first
           | refine o_indexm tabOk rfl rfl rfl rfl (by omega) (by omega) (by decide) ?_
           | refine o_build0 (t := 102) (v := .agg Pe.zero.cs.toArray) (fun _ => by kernel_rfl) (by decide) ?_
           | refine o_build0 (t := 66) (v := .agg Pe.zero.cs.toArray) (fun _ => by kernel_rfl) (by decide) ?_
           | refine o_alloca (e := 102) (vs := Pe.zero.cs) rfl (by kernel_rfl) (by decide) fun g => ?_
           | refine o_alloca (e := 66) (vs := Pe.zero.cs) rfl (by kernel_rfl) (by decide) fun g => ?_
           | (refine z_isbin ?_; first
           | (refine z_isb .add ?_; first
           | refine o_add rfl rfl (by omega) (by omega) (by decide) ?_
           | refine o_addw rfl rfl (by decide) ?_)
           | (refine z_isb .eql ?_; first
           | refine o_eq rfl rfl (by decide) ?_
           | refine o_beq tabOk rfl rfl rfl (by decide) ?_
           | refine o_peq tabOk rfl rfl (by decide) ?_)
           | (refine z_isb .neq ?_; first
           | refine o_ne rfl rfl (by decide) ?_
           | refine o_bne tabOk rfl rfl rfl (by decide) ?_
           | refine o_pne tabOk rfl rfl (by decide) ?_)
           | (refine z_isb .leq ?_; first
           | refine o_le rfl rfl (by decide) ?_)
           | (refine z_isb .gtr ?_; first
           | refine o_gt rfl rfl (by decide) ?_))
           | (refine z_isload ?_; first
           | refine o_loadp tabOk rfl rfl rfl 0 rfl (pe_len _) (tcs_el _ (by omega)) (by decide) ?_
           | refine o_loadp tabOk rfl rfl rfl 1 rfl (pe_len _) (tcs_el _ (by omega)) (by decide) ?_
           | (refine z_ld1 tabOk rfl rfl ?_; first
           | refine o_loadm tabOk rfl rfl rfl (by repeat' (first | exact List.mem_cons_self | apply List.mem_cons_of_mem)) (by first | exact tcs_s _ (by omega) | exact tcs_p _ (by omega) | exact tcs_u _ (by omega) | exact pe_s _ | exact pe_p _ | exact pe_u _ | rfl) (by decide) ?_
           | refine o_loads tabOk (by first | assumption | exact Rds.cons _ (by assumption) | exact Rds.cons _ (Rds.cons _ (by assumption)) | exact own_rds 0 rfl | exact own_rds 1 rfl | exact own_rds 2 rfl) rfl rfl rfl (by first | exact tcs_s _ (by omega) | exact tcs_p _ (by omega) | exact tcs_u _ (by omega) | exact pe_s _ | exact pe_p _ | exact pe_u _ | rfl) (by decide) ?_)
           | (refine z_ldw tabOk rfl rfl ?_; first
           | refine o_loadwm tabOk rfl rfl rfl (by repeat' (first | exact List.mem_cons_self | apply List.mem_cons_of_mem)) (by first | exact tcs_len _ | exact pe_len _ | (simp only [tcs_len, pe_len]) | rfl) (by decide) ?_))
           | (refine z_isstore ?_; first
           | (refine o_storew_at rfl 0 tabOk rfl rfl rfl rfl (pe_len _) (pe_one _) (by rw [tcs_len, pe_len]; omega) (tcs_put _ (by omega) _) ?_)
           | (refine o_storew_at rfl 1 tabOk rfl rfl rfl rfl (pe_len _) (pe_one _) (by rw [tcs_len, pe_len]; omega) (tcs_put _ (by omega) _) ?_)
           | (refine z_stw rfl ?_; first
           | ((refine z_sti 0 rfl rfl ?_; refine o_storeb0 rfl tabOk rfl rfl rfl (by first | exact tcs_len _ | exact pe_len _ | (simp only [tcs_len, pe_len]) | rfl) (by first | exact tcs_one _ | exact pe_one _ | rfl) (by first | exact tcs_len _ | exact pe_len _ | (simp only [tcs_len, pe_len]) | rfl) ?_))
           | ((refine z_sti 1 rfl rfl ?_; refine o_storeb1 rfl tabOk rfl rfl rfl (by first | exact tcs_len _ | exact pe_len _ | (simp only [tcs_len, pe_len]) | rfl) (by first | exact tcs_one _ | exact pe_one _ | rfl) (by first | exact tcs_len _ | exact pe_len _ | (simp only [tcs_len, pe_len]) | rfl) ?_))
           | ((refine z_sti 2 rfl rfl ?_; refine o_storeb2 rfl tabOk rfl rfl rfl (by first | exact tcs_len _ | exact pe_len _ | (simp only [tcs_len, pe_len]) | rfl) (by first | exact tcs_one _ | exact pe_one _ | rfl) (by first | exact tcs_len _ | exact pe_len _ | (simp only [tcs_len, pe_len]) | rfl) ?_))
           | ((refine z_sti 3 rfl rfl ?_; refine o_storeb3 rfl tabOk rfl rfl rfl (by first | exact tcs_len _ | exact pe_len _ | (simp only [tcs_len, pe_len]) | rfl) (by first | exact tcs_one _ | exact pe_one _ | rfl) (by first | exact tcs_len _ | exact pe_len _ | (simp only [tcs_len, pe_len]) | rfl) ?_))
           | ((refine z_sti 4 rfl rfl ?_; refine o_storeb4 rfl tabOk rfl rfl rfl (by first | exact tcs_len _ | exact pe_len _ | (simp only [tcs_len, pe_len]) | rfl) (by first | exact tcs_one _ | exact pe_one _ | rfl) (by first | exact tcs_len _ | exact pe_len _ | (simp only [tcs_len, pe_len]) | rfl) ?_))
           | ((refine z_sti 5 rfl rfl ?_; refine o_storeb5 rfl tabOk rfl rfl rfl (by first | exact tcs_len _ | exact pe_len _ | (simp only [tcs_len, pe_len]) | rfl) (by first | exact tcs_one _ | exact pe_one _ | rfl) (by first | exact tcs_len _ | exact pe_len _ | (simp only [tcs_len, pe_len]) | rfl) ?_))
           | ((refine z_sti 6 rfl rfl ?_; refine o_storeb6 rfl tabOk rfl rfl rfl (by first | exact tcs_len _ | exact pe_len _ | (simp only [tcs_len, pe_len]) | rfl) (by first | exact tcs_one _ | exact pe_one _ | rfl) (by first | exact tcs_len _ | exact pe_len _ | (simp only [tcs_len, pe_len]) | rfl) ?_)))
           | (refine z_st1 rfl rfl ?_; first
           | refine o_store rfl tabOk rfl rfl rfl rfl rfl (by first | exact tcs_s _ (by omega) | exact tcs_p _ (by omega) | exact tcs_u _ (by omega) | exact pe_s _ | exact pe_p _ | exact pe_u _ | rfl) (by first | exact tcs_set_s _ (by omega) _ | exact tcs_set_p _ (by omega) _ | exact tcs_set_u _ (by omega) _ | rfl) ?_
           | ((refine z_sti 1 rfl rfl ?_; refine o_store1 rfl tabOk rfl rfl rfl rfl rfl (by first | exact tcs_s _ (by omega) | exact tcs_p _ (by omega) | exact tcs_u _ (by omega) | exact pe_s _ | exact pe_p _ | exact pe_u _ | rfl) (by first | exact tcs_set_s _ (by omega) _ | exact tcs_set_p _ (by omega) _ | exact tcs_set_u _ (by omega) _ | rfl) ?_))
           | ((refine z_sti 2 rfl rfl ?_; refine o_store2 rfl tabOk rfl rfl rfl rfl rfl (by first | exact tcs_s _ (by omega) | exact tcs_p _ (by omega) | exact tcs_u _ (by omega) | exact pe_s _ | exact pe_p _ | exact pe_u _ | rfl) (by first | exact tcs_set_s _ (by omega) _ | exact tcs_set_p _ (by omega) _ | exact tcs_set_u _ (by omega) _ | rfl) ?_))
           | ((refine z_sti 3 rfl rfl ?_; refine o_store3 rfl tabOk rfl rfl rfl rfl rfl (by first | exact tcs_s _ (by omega) | exact tcs_p _ (by omega) | exact tcs_u _ (by omega) | exact pe_s _ | exact pe_p _ | exact pe_u _ | rfl) (by first | exact tcs_set_s _ (by omega) _ | exact tcs_set_p _ (by omega) _ | exact tcs_set_u _ (by omega) _ | rfl) ?_))
           | ((refine z_sti 4 rfl rfl ?_; refine o_store4 rfl tabOk rfl rfl rfl rfl rfl (by first | exact tcs_s _ (by omega) | exact tcs_p _ (by omega) | exact tcs_u _ (by omega) | exact pe_s _ | exact pe_p _ | exact pe_u _ | rfl) (by first | exact tcs_set_s _ (by omega) _ | exact tcs_set_p _ (by omega) _ | exact tcs_set_u _ (by omega) _ | rfl) ?_))
           | ((refine z_sti 5 rfl rfl ?_; refine o_store5 rfl tabOk rfl rfl rfl rfl rfl (by first | exact tcs_s _ (by omega) | exact tcs_p _ (by omega) | exact tcs_u _ (by omega) | exact pe_s _ | exact pe_p _ | exact pe_u _ | rfl) (by first | exact tcs_set_s _ (by omega) _ | exact tcs_set_p _ (by omega) _ | exact tcs_set_u _ (by omega) _ | rfl) ?_))
           | ((refine z_sti 6 rfl rfl ?_; refine o_store6 rfl tabOk rfl rfl rfl rfl rfl (by first | exact tcs_s _ (by omega) | exact tcs_p _ (by omega) | exact tcs_u _ (by omega) | exact pe_s _ | exact pe_p _ | exact pe_u _ | rfl) (by first | exact tcs_set_s _ (by omega) _ | exact tcs_set_p _ (by omega) _ | exact tcs_set_u _ (by omega) _ | rfl) ?_))))
           | (refine z_iscall ?_; first
           | ((refine z_iscallf 54 ?_; refine o_callr rfl Try.func54 rfl rfl rfl (in_c _ _ _ _ (by first | exact cells_rds 0 rfl | exact cells_rds 1 rfl | exact cells_rds 2 rfl)) (by decide) ?_))
           | ((refine z_iscallf 57 ?_; refine o_callr rfl Try.func57 rfl rfl rfl (ralive_c _ _ _ _ (by first | exact cells_rds 0 rfl | exact cells_rds 1 rfl | exact cells_rds 2 rfl)) (by decide) ?_)))
           | (refine z_ispick ?_; first
           | (refine o_pick1 rfl (by first | with_reducible rfl | with_reducible assumption | ((with_reducible refine decide_eq_true ?_); first | with_reducible rfl | with_reducible assumption | omega)) rfl (by decide) ?_)
           | (refine o_pick0 rfl (by first | with_reducible rfl | with_reducible assumption | ((with_reducible refine decide_eq_false ?_); first | with_reducible assumption | omega)) rfl (by decide) ?_)
           | (refine o_pick1 rfl (by first | (simp only [Bool.not_eq_true', decide_eq_false_iff_not]; omega) | (with_reducible assumption) | (rw [decide_eq_false] <;> (first | omega | with_reducible rfl)) | (rw [decide_eq_true] <;> (first | omega | with_reducible rfl)) | (simp; done) | (simp; omega)) rfl (by decide) ?_)
           | (refine o_pick0 rfl (by first | (simp only [Bool.not_eq_false', decide_eq_true_eq]; omega) | (with_reducible assumption) | (rw [decide_eq_false] <;> (first | omega | with_reducible rfl)) | (rw [decide_eq_true] <;> (first | omega | with_reducible rfl)) | (simp; done) | (simp; omega)) rfl (by decide) ?_))
           | (refine z_isix ?_; first
           | refine o_index0 tabOk rfl rfl rfl rfl (by omega) (by omega) (by decide) ?_
           | refine o_index1 tabOk rfl rfl rfl rfl (by omega) (by omega) (by decide) ?_
           | refine o_indexsk1 tabOk rfl rfl rfl rfl (by omega) (by omega) (by decide) ?_
           | refine o_indexsk tabOk rfl rfl rfl rfl (by omega) (by omega) (by decide) ?_
           | refine o_indexs1 tabOk (by first | assumption) rfl rfl rfl rfl (by omega) (by omega) (by decide) ?_)
           | refine o_move rfl (by decide) ?_
           | refine o_assign rfl (by decide) ?_
           | refine o_nil rfl (by decide) ?_
           | refine o_extract rfl rfl (by decide) ?_
           | refine o_not rfl (by decide) ?_
           | refine o_field0 tabOk rfl rfl rfl rfl rfl (by decide) ?_
           | refine o_field tabOk rfl rfl rfl rfl rfl (by decide) ?_
           | refine o_conv tabOk rfl rfl rfl (by decide) ?_))
        · skip
          repeat' (first
           | (refine s_is ?_; first
           | (refine s_isagain ?_; first
           | (exact c_again (k + 1) ⟨by omega, by omega⟩ (by omega) ⟨rfl, rfl, rfl, trivial⟩ (fun w h => by rw [hs]; exact h)))
           | (refine s_isw ?_; first
           | refine c_seq ?_
           | refine c_block ?_
           | refine c_region ?_
           | refine c_mixed mixed (by kernel_rfl) ?_
           | refine c_skip ?_
           | refine c_ret ?_
           | refine c_exit ?_
           | (refine s_iscond ?_; first
           | (refine c_true rfl (by first | with_reducible rfl | with_reducible assumption | ((with_reducible refine decide_eq_true ?_); first | with_reducible rfl | with_reducible assumption | omega)) ?_)
           | (refine c_false rfl (by first | with_reducible rfl | with_reducible assumption | ((with_reducible refine decide_eq_false ?_); first | with_reducible assumption | omega)) ?_)
           | (refine c_true rfl (by first | (simp only [Bool.not_eq_true', decide_eq_false_iff_not]; omega) | (with_reducible assumption) | (rw [decide_eq_false] <;> (first | omega | with_reducible rfl)) | (rw [decide_eq_true] <;> (first | omega | with_reducible rfl)) | (simp; done) | (simp; omega)) ?_)
           | (refine c_false rfl (by first | (simp only [Bool.not_eq_false', decide_eq_true_eq]; omega) | (with_reducible assumption) | (rw [decide_eq_false] <;> (first | omega | with_reducible rfl)) | (rw [decide_eq_true] <;> (first | omega | with_reducible rfl)) | (simp; done) | (simp; omega)) ?_)
           | refine c_cond rfl (fun hc => ?_) (fun hc => ?_)
           | refine c_condb rfl (fun hc => ?_) (fun hc => ?_)))
           | refine x_then ?_
           | refine x_then_ret ?_
           | refine x_then_exit ?_
           | refine x_block _ ?_
           | refine x_block_ret _ ?_
           | refine x_block_exit _ ?_
           | refine x_block_past (by decide) ?_
           | refine z_tailm ?_)
           | (refine z_isg1 ?_; first
           | refine z_skipu (by decide) rfl rfl ?_
           | (refine z_want1 rfl rfl (by first | with_reducible rfl | with_reducible assumption | ((with_reducible refine decide_eq_true ?_); first | with_reducible rfl | with_reducible assumption | omega)) ?_)
           | (refine z_skip1 (by decide) rfl rfl (by first | with_reducible rfl | with_reducible assumption | ((with_reducible refine decide_eq_false ?_); first | with_reducible assumption | omega)) ?_)
           | (refine z_want1 rfl rfl (by first | (simp only [Bool.not_eq_true', decide_eq_false_iff_not]; omega) | (with_reducible assumption) | (rw [decide_eq_false] <;> (first | omega | with_reducible rfl)) | (rw [decide_eq_true] <;> (first | omega | with_reducible rfl)) | (simp; done) | (simp; omega)) ?_)
           | (refine z_skip1 (by decide) rfl rfl (by first | (simp only [Bool.not_eq_false', decide_eq_true_eq]; omega) | (with_reducible assumption) | (rw [decide_eq_false] <;> (first | omega | with_reducible rfl)) | (rw [decide_eq_true] <;> (first | omega | with_reducible rfl)) | (simp; done) | (simp; omega)) ?_)
           | refine z_guard1 (by decide) rfl rfl (fun hc => ?_) (fun hc => ?_)
           | refine z_guardb (by decide) rfl rfl (fun hc => ?_) (fun hc => ?_))
           | (refine z_isnil ?_; first
           | refine z_list ?_
           | refine z_mixed ?_
           | refine z_mono0 ?_
           | refine z_mono1 (by decide) fun g => ?_
           | refine z_mono2 (by decide) (by decide) fun g g' => ?_
           | refine z_mixedx ?_
           | refine z_quiet ?_)
           | (refine z_isop ?_; first
           | refine o_indexm tabOk rfl rfl rfl rfl (by omega) (by omega) (by decide) ?_
           | refine o_build0 (t := 102) (v := .agg Pe.zero.cs.toArray) (fun _ => by kernel_rfl) (by decide) ?_
           | refine o_build0 (t := 66) (v := .agg Pe.zero.cs.toArray) (fun _ => by kernel_rfl) (by decide) ?_
           | refine o_alloca (e := 102) (vs := Pe.zero.cs) rfl (by kernel_rfl) (by decide) fun g => ?_
           | refine o_alloca (e := 66) (vs := Pe.zero.cs) rfl (by kernel_rfl) (by decide) fun g => ?_
           | (refine z_isbin ?_; first
           | (refine z_isb .add ?_; first
           | refine o_add rfl rfl (by omega) (by omega) (by decide) ?_
           | refine o_addw rfl rfl (by decide) ?_)
           | (refine z_isb .eql ?_; first
           | refine o_eq rfl rfl (by decide) ?_
           | refine o_beq tabOk rfl rfl rfl (by decide) ?_
           | refine o_peq tabOk rfl rfl (by decide) ?_)
           | (refine z_isb .neq ?_; first
           | refine o_ne rfl rfl (by decide) ?_
           | refine o_bne tabOk rfl rfl rfl (by decide) ?_
           | refine o_pne tabOk rfl rfl (by decide) ?_)
           | (refine z_isb .leq ?_; first
           | refine o_le rfl rfl (by decide) ?_)
           | (refine z_isb .gtr ?_; first
           | refine o_gt rfl rfl (by decide) ?_))
           | (refine z_isload ?_; first
           | refine o_loadp tabOk rfl rfl rfl 0 rfl (pe_len _) (tcs_el _ (by omega)) (by decide) ?_
           | refine o_loadp tabOk rfl rfl rfl 1 rfl (pe_len _) (tcs_el _ (by omega)) (by decide) ?_
           | (refine z_ld1 tabOk rfl rfl ?_; first
           | refine o_loadm tabOk rfl rfl rfl (by repeat' (first | exact List.mem_cons_self | apply List.mem_cons_of_mem)) (by first | exact tcs_s _ (by omega) | exact tcs_p _ (by omega) | exact tcs_u _ (by omega) | exact pe_s _ | exact pe_p _ | exact pe_u _ | rfl) (by decide) ?_
           | refine o_loads tabOk (by first | assumption | exact Rds.cons _ (by assumption) | exact Rds.cons _ (Rds.cons _ (by assumption)) | exact own_rds 0 rfl | exact own_rds 1 rfl | exact own_rds 2 rfl) rfl rfl rfl (by first | exact tcs_s _ (by omega) | exact tcs_p _ (by omega) | exact tcs_u _ (by omega) | exact pe_s _ | exact pe_p _ | exact pe_u _ | rfl) (by decide) ?_)
           | (refine z_ldw tabOk rfl rfl ?_; first
           | refine o_loadwm tabOk rfl rfl rfl (by repeat' (first | exact List.mem_cons_self | apply List.mem_cons_of_mem)) (by first | exact tcs_len _ | exact pe_len _ | (simp only [tcs_len, pe_len]) | rfl) (by decide) ?_))
           | (refine z_isstore ?_; first
           | (refine o_storew_at rfl 0 tabOk rfl rfl rfl rfl (pe_len _) (pe_one _) (by rw [tcs_len, pe_len]; omega) (tcs_put _ (by omega) _) ?_)
           | (refine o_storew_at rfl 1 tabOk rfl rfl rfl rfl (pe_len _) (pe_one _) (by rw [tcs_len, pe_len]; omega) (tcs_put _ (by omega) _) ?_)
           | (refine z_stw rfl ?_; first
           | ((refine z_sti 0 rfl rfl ?_; refine o_storeb0 rfl tabOk rfl rfl rfl (by first | exact tcs_len _ | exact pe_len _ | (simp only [tcs_len, pe_len]) | rfl) (by first | exact tcs_one _ | exact pe_one _ | rfl) (by first | exact tcs_len _ | exact pe_len _ | (simp only [tcs_len, pe_len]) | rfl) ?_))
           | ((refine z_sti 1 rfl rfl ?_; refine o_storeb1 rfl tabOk rfl rfl rfl (by first | exact tcs_len _ | exact pe_len _ | (simp only [tcs_len, pe_len]) | rfl) (by first | exact tcs_one _ | exact pe_one _ | rfl) (by first | exact tcs_len _ | exact pe_len _ | (simp only [tcs_len, pe_len]) | rfl) ?_))
           | ((refine z_sti 2 rfl rfl ?_; refine o_storeb2 rfl tabOk rfl rfl rfl (by first | exact tcs_len _ | exact pe_len _ | (simp only [tcs_len, pe_len]) | rfl) (by first | exact tcs_one _ | exact pe_one _ | rfl) (by first | exact tcs_len _ | exact pe_len _ | (simp only [tcs_len, pe_len]) | rfl) ?_))
           | ((refine z_sti 3 rfl rfl ?_; refine o_storeb3 rfl tabOk rfl rfl rfl (by first | exact tcs_len _ | exact pe_len _ | (simp only [tcs_len, pe_len]) | rfl) (by first | exact tcs_one _ | exact pe_one _ | rfl) (by first | exact tcs_len _ | exact pe_len _ | (simp only [tcs_len, pe_len]) | rfl) ?_))
           | ((refine z_sti 4 rfl rfl ?_; refine o_storeb4 rfl tabOk rfl rfl rfl (by first | exact tcs_len _ | exact pe_len _ | (simp only [tcs_len, pe_len]) | rfl) (by first | exact tcs_one _ | exact pe_one _ | rfl) (by first | exact tcs_len _ | exact pe_len _ | (simp only [tcs_len, pe_len]) | rfl) ?_))
           | ((refine z_sti 5 rfl rfl ?_; refine o_storeb5 rfl tabOk rfl rfl rfl (by first | exact tcs_len _ | exact pe_len _ | (simp only [tcs_len, pe_len]) | rfl) (by first | exact tcs_one _ | exact pe_one _ | rfl) (by first | exact tcs_len _ | exact pe_len _ | (simp only [tcs_len, pe_len]) | rfl) ?_))
           | ((refine z_sti 6 rfl rfl ?_; refine o_storeb6 rfl tabOk rfl rfl rfl (by first | exact tcs_len _ | exact pe_len _ | (simp only [tcs_len, pe_len]) | rfl) (by first | exact tcs_one _ | exact pe_one _ | rfl) (by first | exact tcs_len _ | exact pe_len _ | (simp only [tcs_len, pe_len]) | rfl) ?_)))
           | (refine z_st1 rfl rfl ?_; first
           | refine o_store rfl tabOk rfl rfl rfl rfl rfl (by first | exact tcs_s _ (by omega) | exact tcs_p _ (by omega) | exact tcs_u _ (by omega) | exact pe_s _ | exact pe_p _ | exact pe_u _ | rfl) (by first | exact tcs_set_s _ (by omega) _ | exact tcs_set_p _ (by omega) _ | exact tcs_set_u _ (by omega) _ | rfl) ?_
           | ((refine z_sti 1 rfl rfl ?_; refine o_store1 rfl tabOk rfl rfl rfl rfl rfl (by first | exact tcs_s _ (by omega) | exact tcs_p _ (by omega) | exact tcs_u _ (by omega) | exact pe_s _ | exact pe_p _ | exact pe_u _ | rfl) (by first | exact tcs_set_s _ (by omega) _ | exact tcs_set_p _ (by omega) _ | exact tcs_set_u _ (by omega) _ | rfl) ?_))
           | ((refine z_sti 2 rfl rfl ?_; refine o_store2 rfl tabOk rfl rfl rfl rfl rfl (by first | exact tcs_s _ (by omega) | exact tcs_p _ (by omega) | exact tcs_u _ (by omega) | exact pe_s _ | exact pe_p _ | exact pe_u _ | rfl) (by first | exact tcs_set_s _ (by omega) _ | exact tcs_set_p _ (by omega) _ | exact tcs_set_u _ (by omega) _ | rfl) ?_))
           | ((refine z_sti 3 rfl rfl ?_; refine o_store3 rfl tabOk rfl rfl rfl rfl rfl (by first | exact tcs_s _ (by omega) | exact tcs_p _ (by omega) | exact tcs_u _ (by omega) | exact pe_s _ | exact pe_p _ | exact pe_u _ | rfl) (by first | exact tcs_set_s _ (by omega) _ | exact tcs_set_p _ (by omega) _ | exact tcs_set_u _ (by omega) _ | rfl) ?_))
           | ((refine z_sti 4 rfl rfl ?_; refine o_store4 rfl tabOk rfl rfl rfl rfl rfl (by first | exact tcs_s _ (by omega) | exact tcs_p _ (by omega) | exact tcs_u _ (by omega) | exact pe_s _ | exact pe_p _ | exact pe_u _ | rfl) (by first | exact tcs_set_s _ (by omega) _ | exact tcs_set_p _ (by omega) _ | exact tcs_set_u _ (by omega) _ | rfl) ?_))
           | ((refine z_sti 5 rfl rfl ?_; refine o_store5 rfl tabOk rfl rfl rfl rfl rfl (by first | exact tcs_s _ (by omega) | exact tcs_p _ (by omega) | exact tcs_u _ (by omega) | exact pe_s _ | exact pe_p _ | exact pe_u _ | rfl) (by first | exact tcs_set_s _ (by omega) _ | exact tcs_set_p _ (by omega) _ | exact tcs_set_u _ (by omega) _ | rfl) ?_))
           | ((refine z_sti 6 rfl rfl ?_; refine o_store6 rfl tabOk rfl rfl rfl rfl rfl (by first | exact tcs_s _ (by omega) | exact tcs_p _ (by omega) | exact tcs_u _ (by omega) | exact pe_s _ | exact pe_p _ | exact pe_u _ | rfl) (by first | exact tcs_set_s _ (by omega) _ | exact tcs_set_p _ (by omega) _ | exact tcs_set_u _ (by omega) _ | rfl) ?_))))
           | (refine z_iscall ?_; first
           | ((refine z_iscallf 54 ?_; refine o_callr rfl Try.func54 rfl rfl rfl (in_c _ _ _ _ (by first | exact cells_rds 0 rfl | exact cells_rds 1 rfl | exact cells_rds 2 rfl)) (by decide) ?_))
           | ((refine z_iscallf 57 ?_; refine o_callr rfl Try.func57 rfl rfl rfl (ralive_c _ _ _ _ (by first | exact cells_rds 0 rfl | exact cells_rds 1 rfl | exact cells_rds 2 rfl)) (by decide) ?_)))
           | (refine z_ispick ?_; first
           | (refine o_pick1 rfl (by first | with_reducible rfl | with_reducible assumption | ((with_reducible refine decide_eq_true ?_); first | with_reducible rfl | with_reducible assumption | omega)) rfl (by decide) ?_)
           | (refine o_pick0 rfl (by first | with_reducible rfl | with_reducible assumption | ((with_reducible refine decide_eq_false ?_); first | with_reducible assumption | omega)) rfl (by decide) ?_)
           | (refine o_pick1 rfl (by first | (simp only [Bool.not_eq_true', decide_eq_false_iff_not]; omega) | (with_reducible assumption) | (rw [decide_eq_false] <;> (first | omega | with_reducible rfl)) | (rw [decide_eq_true] <;> (first | omega | with_reducible rfl)) | (simp; done) | (simp; omega)) rfl (by decide) ?_)
           | (refine o_pick0 rfl (by first | (simp only [Bool.not_eq_false', decide_eq_true_eq]; omega) | (with_reducible assumption) | (rw [decide_eq_false] <;> (first | omega | with_reducible rfl)) | (rw [decide_eq_true] <;> (first | omega | with_reducible rfl)) | (simp; done) | (simp; omega)) rfl (by decide) ?_))
           | (refine z_isix ?_; first
           | refine o_index0 tabOk rfl rfl rfl rfl (by omega) (by omega) (by decide) ?_
           | refine o_index1 tabOk rfl rfl rfl rfl (by omega) (by omega) (by decide) ?_
           | refine o_indexsk1 tabOk rfl rfl rfl rfl (by omega) (by omega) (by decide) ?_
           | refine o_indexsk tabOk rfl rfl rfl rfl (by omega) (by omega) (by decide) ?_
           | refine o_indexs1 tabOk (by first | assumption) rfl rfl rfl rfl (by omega) (by omega) (by decide) ?_)
           | refine o_move rfl (by decide) ?_
           | refine o_assign rfl (by decide) ?_
           | refine o_nil rfl (by decide) ?_
           | refine o_extract rfl rfl (by decide) ?_
           | refine o_not rfl (by decide) ?_
           | refine o_field0 tabOk rfl rfl rfl rfl rfl (by decide) ?_
           | refine o_field tabOk rfl rfl rfl rfl rfl (by decide) ?_
           | refine o_conv tabOk rfl rfl rfl (by decide) ?_))
    · obtain rfl : k = 8 := by omega
      by_cases hg : 1 < i ∧ inB (loopX (doneP e i.toNat u) i 8) (loopX (doneP e i.toNat u) i 8 i.toNat).p = false
      · rw [exit_gone hin hg]
        have hg1 : (!inB (loopX (doneP e i.toNat u) i 8) (loopX (doneP e i.toNat u) i 8 i.toNat).p) = true := by rw [hg.2]; rfl
        repeat' (first
         | (refine s_is ?_; first
         | (refine s_isret ?_; first
         | exact f_r2 rfl (res_t rfl) (res_t rfl) () trivial rfl (fun w h => h))
         | (refine s_isw ?_; first
         | refine c_seq ?_
         | refine c_block ?_
         | refine c_region ?_
         | refine c_mixed mixed (by kernel_rfl) ?_
         | refine c_skip ?_
         | refine c_ret ?_
         | refine c_exit ?_
         | (refine s_iscond ?_; first
         | (refine c_true rfl (by first | with_reducible rfl | with_reducible assumption | ((with_reducible refine decide_eq_true ?_); first | with_reducible rfl | with_reducible assumption | omega)) ?_)
         | (refine c_false rfl (by first | with_reducible rfl | with_reducible assumption | ((with_reducible refine decide_eq_false ?_); first | with_reducible assumption | omega)) ?_)
         | (refine c_true rfl (by first | (simp only [Bool.not_eq_true', decide_eq_false_iff_not]; omega) | (with_reducible assumption) | (rw [decide_eq_false] <;> (first | omega | with_reducible rfl)) | (rw [decide_eq_true] <;> (first | omega | with_reducible rfl)) | (simp; done) | (simp; omega)) ?_)
         | (refine c_false rfl (by first | (simp only [Bool.not_eq_false', decide_eq_true_eq]; omega) | (with_reducible assumption) | (rw [decide_eq_false] <;> (first | omega | with_reducible rfl)) | (rw [decide_eq_true] <;> (first | omega | with_reducible rfl)) | (simp; done) | (simp; omega)) ?_)
         | refine c_cond rfl (fun hc => ?_) (fun hc => ?_)
         | refine c_condb rfl (fun hc => ?_) (fun hc => ?_)))
         | refine x_then ?_
         | refine x_then_ret ?_
         | refine x_then_exit ?_
         | refine x_block _ ?_
         | refine x_block_ret _ ?_
         | refine x_block_exit _ ?_
         | refine x_block_past (by decide) ?_
         | refine z_tailm ?_)
         | (refine z_isg1 ?_; first
         | refine z_skipu (by decide) rfl rfl ?_
         | (refine z_want1 rfl rfl (by first | with_reducible rfl | with_reducible assumption | ((with_reducible refine decide_eq_true ?_); first | with_reducible rfl | with_reducible assumption | omega)) ?_)
         | (refine z_skip1 (by decide) rfl rfl (by first | with_reducible rfl | with_reducible assumption | ((with_reducible refine decide_eq_false ?_); first | with_reducible assumption | omega)) ?_)
         | (refine z_want1 rfl rfl (by first | (simp only [Bool.not_eq_true', decide_eq_false_iff_not]; omega) | (with_reducible assumption) | (rw [decide_eq_false] <;> (first | omega | with_reducible rfl)) | (rw [decide_eq_true] <;> (first | omega | with_reducible rfl)) | (simp; done) | (simp; omega)) ?_)
         | (refine z_skip1 (by decide) rfl rfl (by first | (simp only [Bool.not_eq_false', decide_eq_true_eq]; omega) | (with_reducible assumption) | (rw [decide_eq_false] <;> (first | omega | with_reducible rfl)) | (rw [decide_eq_true] <;> (first | omega | with_reducible rfl)) | (simp; done) | (simp; omega)) ?_)
         | refine z_guard1 (by decide) rfl rfl (fun hc => ?_) (fun hc => ?_)
         | refine z_guardb (by decide) rfl rfl (fun hc => ?_) (fun hc => ?_))
         | (refine z_isnil ?_; first
         | refine z_list ?_
         | refine z_mixed ?_
         | refine z_mono0 ?_
         | refine z_mono1 (by decide) fun g => ?_
         | refine z_mono2 (by decide) (by decide) fun g g' => ?_
         | refine z_mixedx ?_
         | refine z_quiet ?_)
         | (refine z_isop ?_; first
         | refine o_indexm tabOk rfl rfl rfl rfl (by omega) (by omega) (by decide) ?_
         | refine o_build0 (t := 102) (v := .agg Pe.zero.cs.toArray) (fun _ => by kernel_rfl) (by decide) ?_
         | refine o_build0 (t := 66) (v := .agg Pe.zero.cs.toArray) (fun _ => by kernel_rfl) (by decide) ?_
         | refine o_alloca (e := 102) (vs := Pe.zero.cs) rfl (by kernel_rfl) (by decide) fun g => ?_
         | refine o_alloca (e := 66) (vs := Pe.zero.cs) rfl (by kernel_rfl) (by decide) fun g => ?_
         | (refine z_isbin ?_; first
         | (refine z_isb .add ?_; first
         | refine o_add rfl rfl (by omega) (by omega) (by decide) ?_
         | refine o_addw rfl rfl (by decide) ?_)
         | (refine z_isb .eql ?_; first
         | refine o_eq rfl rfl (by decide) ?_
         | refine o_beq tabOk rfl rfl rfl (by decide) ?_
         | refine o_peq tabOk rfl rfl (by decide) ?_)
         | (refine z_isb .neq ?_; first
         | refine o_ne rfl rfl (by decide) ?_
         | refine o_bne tabOk rfl rfl rfl (by decide) ?_
         | refine o_pne tabOk rfl rfl (by decide) ?_)
         | (refine z_isb .leq ?_; first
         | refine o_le rfl rfl (by decide) ?_)
         | (refine z_isb .gtr ?_; first
         | refine o_gt rfl rfl (by decide) ?_))
         | (refine z_isload ?_; first
         | refine o_loadp tabOk rfl rfl rfl 0 rfl (pe_len _) (tcs_el _ (by omega)) (by decide) ?_
         | refine o_loadp tabOk rfl rfl rfl 1 rfl (pe_len _) (tcs_el _ (by omega)) (by decide) ?_
         | (refine z_ld1 tabOk rfl rfl ?_; first
         | refine o_loadm tabOk rfl rfl rfl (by repeat' (first | exact List.mem_cons_self | apply List.mem_cons_of_mem)) (by first | exact tcs_s _ (by omega) | exact tcs_p _ (by omega) | exact tcs_u _ (by omega) | exact pe_s _ | exact pe_p _ | exact pe_u _ | rfl) (by decide) ?_
         | refine o_loads tabOk (by first | assumption | exact Rds.cons _ (by assumption) | exact Rds.cons _ (Rds.cons _ (by assumption)) | exact own_rds 0 rfl | exact own_rds 1 rfl | exact own_rds 2 rfl) rfl rfl rfl (by first | exact tcs_s _ (by omega) | exact tcs_p _ (by omega) | exact tcs_u _ (by omega) | exact pe_s _ | exact pe_p _ | exact pe_u _ | rfl) (by decide) ?_)
         | (refine z_ldw tabOk rfl rfl ?_; first
         | refine o_loadwm tabOk rfl rfl rfl (by repeat' (first | exact List.mem_cons_self | apply List.mem_cons_of_mem)) (by first | exact tcs_len _ | exact pe_len _ | (simp only [tcs_len, pe_len]) | rfl) (by decide) ?_))
         | (refine z_isstore ?_; first
         | (refine o_storew_at rfl 0 tabOk rfl rfl rfl rfl (pe_len _) (pe_one _) (by rw [tcs_len, pe_len]; omega) (tcs_put _ (by omega) _) ?_)
         | (refine o_storew_at rfl 1 tabOk rfl rfl rfl rfl (pe_len _) (pe_one _) (by rw [tcs_len, pe_len]; omega) (tcs_put _ (by omega) _) ?_)
         | (refine z_stw rfl ?_; first
         | ((refine z_sti 0 rfl rfl ?_; refine o_storeb0 rfl tabOk rfl rfl rfl (by first | exact tcs_len _ | exact pe_len _ | (simp only [tcs_len, pe_len]) | rfl) (by first | exact tcs_one _ | exact pe_one _ | rfl) (by first | exact tcs_len _ | exact pe_len _ | (simp only [tcs_len, pe_len]) | rfl) ?_))
         | ((refine z_sti 1 rfl rfl ?_; refine o_storeb1 rfl tabOk rfl rfl rfl (by first | exact tcs_len _ | exact pe_len _ | (simp only [tcs_len, pe_len]) | rfl) (by first | exact tcs_one _ | exact pe_one _ | rfl) (by first | exact tcs_len _ | exact pe_len _ | (simp only [tcs_len, pe_len]) | rfl) ?_))
         | ((refine z_sti 2 rfl rfl ?_; refine o_storeb2 rfl tabOk rfl rfl rfl (by first | exact tcs_len _ | exact pe_len _ | (simp only [tcs_len, pe_len]) | rfl) (by first | exact tcs_one _ | exact pe_one _ | rfl) (by first | exact tcs_len _ | exact pe_len _ | (simp only [tcs_len, pe_len]) | rfl) ?_))
         | ((refine z_sti 3 rfl rfl ?_; refine o_storeb3 rfl tabOk rfl rfl rfl (by first | exact tcs_len _ | exact pe_len _ | (simp only [tcs_len, pe_len]) | rfl) (by first | exact tcs_one _ | exact pe_one _ | rfl) (by first | exact tcs_len _ | exact pe_len _ | (simp only [tcs_len, pe_len]) | rfl) ?_))
         | ((refine z_sti 4 rfl rfl ?_; refine o_storeb4 rfl tabOk rfl rfl rfl (by first | exact tcs_len _ | exact pe_len _ | (simp only [tcs_len, pe_len]) | rfl) (by first | exact tcs_one _ | exact pe_one _ | rfl) (by first | exact tcs_len _ | exact pe_len _ | (simp only [tcs_len, pe_len]) | rfl) ?_))
         | ((refine z_sti 5 rfl rfl ?_; refine o_storeb5 rfl tabOk rfl rfl rfl (by first | exact tcs_len _ | exact pe_len _ | (simp only [tcs_len, pe_len]) | rfl) (by first | exact tcs_one _ | exact pe_one _ | rfl) (by first | exact tcs_len _ | exact pe_len _ | (simp only [tcs_len, pe_len]) | rfl) ?_))
         | ((refine z_sti 6 rfl rfl ?_; refine o_storeb6 rfl tabOk rfl rfl rfl (by first | exact tcs_len _ | exact pe_len _ | (simp only [tcs_len, pe_len]) | rfl) (by first | exact tcs_one _ | exact pe_one _ | rfl) (by first | exact tcs_len _ | exact pe_len _ | (simp only [tcs_len, pe_len]) | rfl) ?_)))
         | (refine z_st1 rfl rfl ?_; first
         | refine o_store rfl tabOk rfl rfl rfl rfl rfl (by first | exact tcs_s _ (by omega) | exact tcs_p _ (by omega) | exact tcs_u _ (by omega) | exact pe_s _ | exact pe_p _ | exact pe_u _ | rfl) (by first | exact tcs_set_s _ (by omega) _ | exact tcs_set_p _ (by omega) _ | exact tcs_set_u _ (by omega) _ | rfl) ?_
         | ((refine z_sti 1 rfl rfl ?_; refine o_store1 rfl tabOk rfl rfl rfl rfl rfl (by first | exact tcs_s _ (by omega) | exact tcs_p _ (by omega) | exact tcs_u _ (by omega) | exact pe_s _ | exact pe_p _ | exact pe_u _ | rfl) (by first | exact tcs_set_s _ (by omega) _ | exact tcs_set_p _ (by omega) _ | exact tcs_set_u _ (by omega) _ | rfl) ?_))
         | ((refine z_sti 2 rfl rfl ?_; refine o_store2 rfl tabOk rfl rfl rfl rfl rfl (by first | exact tcs_s _ (by omega) | exact tcs_p _ (by omega) | exact tcs_u _ (by omega) | exact pe_s _ | exact pe_p _ | exact pe_u _ | rfl) (by first | exact tcs_set_s _ (by omega) _ | exact tcs_set_p _ (by omega) _ | exact tcs_set_u _ (by omega) _ | rfl) ?_))
         | ((refine z_sti 3 rfl rfl ?_; refine o_store3 rfl tabOk rfl rfl rfl rfl rfl (by first | exact tcs_s _ (by omega) | exact tcs_p _ (by omega) | exact tcs_u _ (by omega) | exact pe_s _ | exact pe_p _ | exact pe_u _ | rfl) (by first | exact tcs_set_s _ (by omega) _ | exact tcs_set_p _ (by omega) _ | exact tcs_set_u _ (by omega) _ | rfl) ?_))
         | ((refine z_sti 4 rfl rfl ?_; refine o_store4 rfl tabOk rfl rfl rfl rfl rfl (by first | exact tcs_s _ (by omega) | exact tcs_p _ (by omega) | exact tcs_u _ (by omega) | exact pe_s _ | exact pe_p _ | exact pe_u _ | rfl) (by first | exact tcs_set_s _ (by omega) _ | exact tcs_set_p _ (by omega) _ | exact tcs_set_u _ (by omega) _ | rfl) ?_))
         | ((refine z_sti 5 rfl rfl ?_; refine o_store5 rfl tabOk rfl rfl rfl rfl rfl (by first | exact tcs_s _ (by omega) | exact tcs_p _ (by omega) | exact tcs_u _ (by omega) | exact pe_s _ | exact pe_p _ | exact pe_u _ | rfl) (by first | exact tcs_set_s _ (by omega) _ | exact tcs_set_p _ (by omega) _ | exact tcs_set_u _ (by omega) _ | rfl) ?_))
         | ((refine z_sti 6 rfl rfl ?_; refine o_store6 rfl tabOk rfl rfl rfl rfl rfl (by first | exact tcs_s _ (by omega) | exact tcs_p _ (by omega) | exact tcs_u _ (by omega) | exact pe_s _ | exact pe_p _ | exact pe_u _ | rfl) (by first | exact tcs_set_s _ (by omega) _ | exact tcs_set_p _ (by omega) _ | exact tcs_set_u _ (by omega) _ | rfl) ?_))))
         | (refine z_iscall ?_; first
         | ((refine z_iscallf 54 ?_; refine o_callr rfl Try.func54 rfl rfl rfl (in_c _ _ _ _ (by first | exact cells_rds 0 rfl | exact cells_rds 1 rfl | exact cells_rds 2 rfl)) (by decide) ?_))
         | ((refine z_iscallf 57 ?_; refine o_callr rfl Try.func57 rfl rfl rfl (ralive_c _ _ _ _ (by first | exact cells_rds 0 rfl | exact cells_rds 1 rfl | exact cells_rds 2 rfl)) (by decide) ?_)))
         | (refine z_ispick ?_; first
         | (refine o_pick1 rfl (by first | with_reducible rfl | with_reducible assumption | ((with_reducible refine decide_eq_true ?_); first | with_reducible rfl | with_reducible assumption | omega)) rfl (by decide) ?_)
         | (refine o_pick0 rfl (by first | with_reducible rfl | with_reducible assumption | ((with_reducible refine decide_eq_false ?_); first | with_reducible assumption | omega)) rfl (by decide) ?_)
         | (refine o_pick1 rfl (by first | (simp only [Bool.not_eq_true', decide_eq_false_iff_not]; omega) | (with_reducible assumption) | (rw [decide_eq_false] <;> (first | omega | with_reducible rfl)) | (rw [decide_eq_true] <;> (first | omega | with_reducible rfl)) | (simp; done) | (simp; omega)) rfl (by decide) ?_)
         | (refine o_pick0 rfl (by first | (simp only [Bool.not_eq_false', decide_eq_true_eq]; omega) | (with_reducible assumption) | (rw [decide_eq_false] <;> (first | omega | with_reducible rfl)) | (rw [decide_eq_true] <;> (first | omega | with_reducible rfl)) | (simp; done) | (simp; omega)) rfl (by decide) ?_))
         | (refine z_isix ?_; first
         | refine o_index0 tabOk rfl rfl rfl rfl (by omega) (by omega) (by decide) ?_
         | refine o_index1 tabOk rfl rfl rfl rfl (by omega) (by omega) (by decide) ?_
         | refine o_indexsk1 tabOk rfl rfl rfl rfl (by omega) (by omega) (by decide) ?_
         | refine o_indexsk tabOk rfl rfl rfl rfl (by omega) (by omega) (by decide) ?_
         | refine o_indexs1 tabOk (by first | assumption) rfl rfl rfl rfl (by omega) (by omega) (by decide) ?_)
         | refine o_move rfl (by decide) ?_
         | refine o_assign rfl (by decide) ?_
         | refine o_nil rfl (by decide) ?_
         | refine o_extract rfl rfl (by decide) ?_
         | refine o_not rfl (by decide) ?_
         | refine o_field0 tabOk rfl rfl rfl rfl rfl (by decide) ?_
         | refine o_field tabOk rfl rfl rfl rfl rfl (by decide) ?_
         | refine o_conv tabOk rfl rfl rfl (by decide) ?_))
      · rw [exit_told hin hg]
        by_cases h1 : 1 < i
        · have hg1 : (!inB (loopX (doneP e i.toNat u) i 8) (loopX (doneP e i.toNat u) i 8 i.toNat).p) = false := by
            rcases Bool.eq_false_or_eq_true (inB (loopX (doneP e i.toNat u) i 8) (loopX (doneP e i.toNat u) i 8 i.toNat).p) with h | h
            · rw [h]; rfl
            · exact absurd ⟨h1, h⟩ hg
          repeat' (first
           | (refine s_is ?_; first
           | (refine s_isret ?_; first
           | exact f_r2 rfl (res_t rfl) (res_t rfl) () trivial rfl (fun w h => h))
           | (refine s_isw ?_; first
           | refine c_seq ?_
           | refine c_block ?_
           | refine c_region ?_
           | refine c_mixed mixed (by kernel_rfl) ?_
           | refine c_skip ?_
           | refine c_ret ?_
           | refine c_exit ?_
           | (refine s_iscond ?_; first
           | (refine c_true rfl (by first | with_reducible rfl | with_reducible assumption | ((with_reducible refine decide_eq_true ?_); first | with_reducible rfl | with_reducible assumption | omega)) ?_)
           | (refine c_false rfl (by first | with_reducible rfl | with_reducible assumption | ((with_reducible refine decide_eq_false ?_); first | with_reducible assumption | omega)) ?_)
           | (refine c_true rfl (by first | (simp only [Bool.not_eq_true', decide_eq_false_iff_not]; omega) | (with_reducible assumption) | (rw [decide_eq_false] <;> (first | omega | with_reducible rfl)) | (rw [decide_eq_true] <;> (first | omega | with_reducible rfl)) | (simp; done) | (simp; omega)) ?_)
           | (refine c_false rfl (by first | (simp only [Bool.not_eq_false', decide_eq_true_eq]; omega) | (with_reducible assumption) | (rw [decide_eq_false] <;> (first | omega | with_reducible rfl)) | (rw [decide_eq_true] <;> (first | omega | with_reducible rfl)) | (simp; done) | (simp; omega)) ?_)
           | refine c_cond rfl (fun hc => ?_) (fun hc => ?_)
           | refine c_condb rfl (fun hc => ?_) (fun hc => ?_)))
           | refine x_then ?_
           | refine x_then_ret ?_
           | refine x_then_exit ?_
           | refine x_block _ ?_
           | refine x_block_ret _ ?_
           | refine x_block_exit _ ?_
           | refine x_block_past (by decide) ?_
           | refine z_tailm ?_)
           | (refine z_isg1 ?_; first
           | refine z_skipu (by decide) rfl rfl ?_
           | (refine z_want1 rfl rfl (by first | with_reducible rfl | with_reducible assumption | ((with_reducible refine decide_eq_true ?_); first | with_reducible rfl | with_reducible assumption | omega)) ?_)
           | (refine z_skip1 (by decide) rfl rfl (by first | with_reducible rfl | with_reducible assumption | ((with_reducible refine decide_eq_false ?_); first | with_reducible assumption | omega)) ?_)
           | (refine z_want1 rfl rfl (by first | (simp only [Bool.not_eq_true', decide_eq_false_iff_not]; omega) | (with_reducible assumption) | (rw [decide_eq_false] <;> (first | omega | with_reducible rfl)) | (rw [decide_eq_true] <;> (first | omega | with_reducible rfl)) | (simp; done) | (simp; omega)) ?_)
           | (refine z_skip1 (by decide) rfl rfl (by first | (simp only [Bool.not_eq_false', decide_eq_true_eq]; omega) | (with_reducible assumption) | (rw [decide_eq_false] <;> (first | omega | with_reducible rfl)) | (rw [decide_eq_true] <;> (first | omega | with_reducible rfl)) | (simp; done) | (simp; omega)) ?_)
           | refine z_guard1 (by decide) rfl rfl (fun hc => ?_) (fun hc => ?_)
           | refine z_guardb (by decide) rfl rfl (fun hc => ?_) (fun hc => ?_))
           | (refine z_isnil ?_; first
           | refine z_list ?_
           | refine z_mixed ?_
           | refine z_mono0 ?_
           | refine z_mono1 (by decide) fun g => ?_
           | refine z_mono2 (by decide) (by decide) fun g g' => ?_
           | refine z_mixedx ?_
           | refine z_quiet ?_)
           | (refine z_isop ?_; first
           | refine o_indexm tabOk rfl rfl rfl rfl (by omega) (by omega) (by decide) ?_
           | refine o_build0 (t := 102) (v := .agg Pe.zero.cs.toArray) (fun _ => by kernel_rfl) (by decide) ?_
           | refine o_build0 (t := 66) (v := .agg Pe.zero.cs.toArray) (fun _ => by kernel_rfl) (by decide) ?_
           | refine o_alloca (e := 102) (vs := Pe.zero.cs) rfl (by kernel_rfl) (by decide) fun g => ?_
           | refine o_alloca (e := 66) (vs := Pe.zero.cs) rfl (by kernel_rfl) (by decide) fun g => ?_
           | (refine z_isbin ?_; first
           | (refine z_isb .add ?_; first
           | refine o_add rfl rfl (by omega) (by omega) (by decide) ?_
           | refine o_addw rfl rfl (by decide) ?_)
           | (refine z_isb .eql ?_; first
           | refine o_eq rfl rfl (by decide) ?_
           | refine o_beq tabOk rfl rfl rfl (by decide) ?_
           | refine o_peq tabOk rfl rfl (by decide) ?_)
           | (refine z_isb .neq ?_; first
           | refine o_ne rfl rfl (by decide) ?_
           | refine o_bne tabOk rfl rfl rfl (by decide) ?_
           | refine o_pne tabOk rfl rfl (by decide) ?_)
           | (refine z_isb .leq ?_; first
           | refine o_le rfl rfl (by decide) ?_)
           | (refine z_isb .gtr ?_; first
           | refine o_gt rfl rfl (by decide) ?_))
           | (refine z_isload ?_; first
           | refine o_loadp tabOk rfl rfl rfl 0 rfl (pe_len _) (tcs_el _ (by omega)) (by decide) ?_
           | refine o_loadp tabOk rfl rfl rfl 1 rfl (pe_len _) (tcs_el _ (by omega)) (by decide) ?_
           | (refine z_ld1 tabOk rfl rfl ?_; first
           | refine o_loadm tabOk rfl rfl rfl (by repeat' (first | exact List.mem_cons_self | apply List.mem_cons_of_mem)) (by first | exact tcs_s _ (by omega) | exact tcs_p _ (by omega) | exact tcs_u _ (by omega) | exact pe_s _ | exact pe_p _ | exact pe_u _ | rfl) (by decide) ?_
           | refine o_loads tabOk (by first | assumption | exact Rds.cons _ (by assumption) | exact Rds.cons _ (Rds.cons _ (by assumption)) | exact own_rds 0 rfl | exact own_rds 1 rfl | exact own_rds 2 rfl) rfl rfl rfl (by first | exact tcs_s _ (by omega) | exact tcs_p _ (by omega) | exact tcs_u _ (by omega) | exact pe_s _ | exact pe_p _ | exact pe_u _ | rfl) (by decide) ?_)
           | (refine z_ldw tabOk rfl rfl ?_; first
           | refine o_loadwm tabOk rfl rfl rfl (by repeat' (first | exact List.mem_cons_self | apply List.mem_cons_of_mem)) (by first | exact tcs_len _ | exact pe_len _ | (simp only [tcs_len, pe_len]) | rfl) (by decide) ?_))
           | (refine z_isstore ?_; first
           | (refine o_storew_at rfl 0 tabOk rfl rfl rfl rfl (pe_len _) (pe_one _) (by rw [tcs_len, pe_len]; omega) (tcs_put _ (by omega) _) ?_)
           | (refine o_storew_at rfl 1 tabOk rfl rfl rfl rfl (pe_len _) (pe_one _) (by rw [tcs_len, pe_len]; omega) (tcs_put _ (by omega) _) ?_)
           | (refine z_stw rfl ?_; first
           | ((refine z_sti 0 rfl rfl ?_; refine o_storeb0 rfl tabOk rfl rfl rfl (by first | exact tcs_len _ | exact pe_len _ | (simp only [tcs_len, pe_len]) | rfl) (by first | exact tcs_one _ | exact pe_one _ | rfl) (by first | exact tcs_len _ | exact pe_len _ | (simp only [tcs_len, pe_len]) | rfl) ?_))
           | ((refine z_sti 1 rfl rfl ?_; refine o_storeb1 rfl tabOk rfl rfl rfl (by first | exact tcs_len _ | exact pe_len _ | (simp only [tcs_len, pe_len]) | rfl) (by first | exact tcs_one _ | exact pe_one _ | rfl) (by first | exact tcs_len _ | exact pe_len _ | (simp only [tcs_len, pe_len]) | rfl) ?_))
           | ((refine z_sti 2 rfl rfl ?_; refine o_storeb2 rfl tabOk rfl rfl rfl (by first | exact tcs_len _ | exact pe_len _ | (simp only [tcs_len, pe_len]) | rfl) (by first | exact tcs_one _ | exact pe_one _ | rfl) (by first | exact tcs_len _ | exact pe_len _ | (simp only [tcs_len, pe_len]) | rfl) ?_))
           | ((refine z_sti 3 rfl rfl ?_; refine o_storeb3 rfl tabOk rfl rfl rfl (by first | exact tcs_len _ | exact pe_len _ | (simp only [tcs_len, pe_len]) | rfl) (by first | exact tcs_one _ | exact pe_one _ | rfl) (by first | exact tcs_len _ | exact pe_len _ | (simp only [tcs_len, pe_len]) | rfl) ?_))
           | ((refine z_sti 4 rfl rfl ?_; refine o_storeb4 rfl tabOk rfl rfl rfl (by first | exact tcs_len _ | exact pe_len _ | (simp only [tcs_len, pe_len]) | rfl) (by first | exact tcs_one _ | exact pe_one _ | rfl) (by first | exact tcs_len _ | exact pe_len _ | (simp only [tcs_len, pe_len]) | rfl) ?_))
           | ((refine z_sti 5 rfl rfl ?_; refine o_storeb5 rfl tabOk rfl rfl rfl (by first | exact tcs_len _ | exact pe_len _ | (simp only [tcs_len, pe_len]) | rfl) (by first | exact tcs_one _ | exact pe_one _ | rfl) (by first | exact tcs_len _ | exact pe_len _ | (simp only [tcs_len, pe_len]) | rfl) ?_))
           | ((refine z_sti 6 rfl rfl ?_; refine o_storeb6 rfl tabOk rfl rfl rfl (by first | exact tcs_len _ | exact pe_len _ | (simp only [tcs_len, pe_len]) | rfl) (by first | exact tcs_one _ | exact pe_one _ | rfl) (by first | exact tcs_len _ | exact pe_len _ | (simp only [tcs_len, pe_len]) | rfl) ?_)))
           | (refine z_st1 rfl rfl ?_; first
           | refine o_store rfl tabOk rfl rfl rfl rfl rfl (by first | exact tcs_s _ (by omega) | exact tcs_p _ (by omega) | exact tcs_u _ (by omega) | exact pe_s _ | exact pe_p _ | exact pe_u _ | rfl) (by first | exact tcs_set_s _ (by omega) _ | exact tcs_set_p _ (by omega) _ | exact tcs_set_u _ (by omega) _ | rfl) ?_
           | ((refine z_sti 1 rfl rfl ?_; refine o_store1 rfl tabOk rfl rfl rfl rfl rfl (by first | exact tcs_s _ (by omega) | exact tcs_p _ (by omega) | exact tcs_u _ (by omega) | exact pe_s _ | exact pe_p _ | exact pe_u _ | rfl) (by first | exact tcs_set_s _ (by omega) _ | exact tcs_set_p _ (by omega) _ | exact tcs_set_u _ (by omega) _ | rfl) ?_))
           | ((refine z_sti 2 rfl rfl ?_; refine o_store2 rfl tabOk rfl rfl rfl rfl rfl (by first | exact tcs_s _ (by omega) | exact tcs_p _ (by omega) | exact tcs_u _ (by omega) | exact pe_s _ | exact pe_p _ | exact pe_u _ | rfl) (by first | exact tcs_set_s _ (by omega) _ | exact tcs_set_p _ (by omega) _ | exact tcs_set_u _ (by omega) _ | rfl) ?_))
           | ((refine z_sti 3 rfl rfl ?_; refine o_store3 rfl tabOk rfl rfl rfl rfl rfl (by first | exact tcs_s _ (by omega) | exact tcs_p _ (by omega) | exact tcs_u _ (by omega) | exact pe_s _ | exact pe_p _ | exact pe_u _ | rfl) (by first | exact tcs_set_s _ (by omega) _ | exact tcs_set_p _ (by omega) _ | exact tcs_set_u _ (by omega) _ | rfl) ?_))
           | ((refine z_sti 4 rfl rfl ?_; refine o_store4 rfl tabOk rfl rfl rfl rfl rfl (by first | exact tcs_s _ (by omega) | exact tcs_p _ (by omega) | exact tcs_u _ (by omega) | exact pe_s _ | exact pe_p _ | exact pe_u _ | rfl) (by first | exact tcs_set_s _ (by omega) _ | exact tcs_set_p _ (by omega) _ | exact tcs_set_u _ (by omega) _ | rfl) ?_))
           | ((refine z_sti 5 rfl rfl ?_; refine o_store5 rfl tabOk rfl rfl rfl rfl rfl (by first | exact tcs_s _ (by omega) | exact tcs_p _ (by omega) | exact tcs_u _ (by omega) | exact pe_s _ | exact pe_p _ | exact pe_u _ | rfl) (by first | exact tcs_set_s _ (by omega) _ | exact tcs_set_p _ (by omega) _ | exact tcs_set_u _ (by omega) _ | rfl) ?_))
           | ((refine z_sti 6 rfl rfl ?_; refine o_store6 rfl tabOk rfl rfl rfl rfl rfl (by first | exact tcs_s _ (by omega) | exact tcs_p _ (by omega) | exact tcs_u _ (by omega) | exact pe_s _ | exact pe_p _ | exact pe_u _ | rfl) (by first | exact tcs_set_s _ (by omega) _ | exact tcs_set_p _ (by omega) _ | exact tcs_set_u _ (by omega) _ | rfl) ?_))))
           | (refine z_iscall ?_; first
           | ((refine z_iscallf 54 ?_; refine o_callr rfl Try.func54 rfl rfl rfl (in_c _ _ _ _ (by first | exact cells_rds 0 rfl | exact cells_rds 1 rfl | exact cells_rds 2 rfl)) (by decide) ?_))
           | ((refine z_iscallf 57 ?_; refine o_callr rfl Try.func57 rfl rfl rfl (ralive_c _ _ _ _ (by first | exact cells_rds 0 rfl | exact cells_rds 1 rfl | exact cells_rds 2 rfl)) (by decide) ?_)))
           | (refine z_ispick ?_; first
           | (refine o_pick1 rfl (by first | with_reducible rfl | with_reducible assumption | ((with_reducible refine decide_eq_true ?_); first | with_reducible rfl | with_reducible assumption | omega)) rfl (by decide) ?_)
           | (refine o_pick0 rfl (by first | with_reducible rfl | with_reducible assumption | ((with_reducible refine decide_eq_false ?_); first | with_reducible assumption | omega)) rfl (by decide) ?_)
           | (refine o_pick1 rfl (by first | (simp only [Bool.not_eq_true', decide_eq_false_iff_not]; omega) | (with_reducible assumption) | (rw [decide_eq_false] <;> (first | omega | with_reducible rfl)) | (rw [decide_eq_true] <;> (first | omega | with_reducible rfl)) | (simp; done) | (simp; omega)) rfl (by decide) ?_)
           | (refine o_pick0 rfl (by first | (simp only [Bool.not_eq_false', decide_eq_true_eq]; omega) | (with_reducible assumption) | (rw [decide_eq_false] <;> (first | omega | with_reducible rfl)) | (rw [decide_eq_true] <;> (first | omega | with_reducible rfl)) | (simp; done) | (simp; omega)) rfl (by decide) ?_))
           | (refine z_isix ?_; first
           | refine o_index0 tabOk rfl rfl rfl rfl (by omega) (by omega) (by decide) ?_
           | refine o_index1 tabOk rfl rfl rfl rfl (by omega) (by omega) (by decide) ?_
           | refine o_indexsk1 tabOk rfl rfl rfl rfl (by omega) (by omega) (by decide) ?_
           | refine o_indexsk tabOk rfl rfl rfl rfl (by omega) (by omega) (by decide) ?_
           | refine o_indexs1 tabOk (by first | assumption) rfl rfl rfl rfl (by omega) (by omega) (by decide) ?_)
           | refine o_move rfl (by decide) ?_
           | refine o_assign rfl (by decide) ?_
           | refine o_nil rfl (by decide) ?_
           | refine o_extract rfl rfl (by decide) ?_
           | refine o_not rfl (by decide) ?_
           | refine o_field0 tabOk rfl rfl rfl rfl rfl (by decide) ?_
           | refine o_field tabOk rfl rfl rfl rfl rfl (by decide) ?_
           | refine o_conv tabOk rfl rfl rfl (by decide) ?_))
        · skip
          repeat' (first
           | (refine s_is ?_; first
           | (refine s_isret ?_; first
           | exact f_r2 rfl (res_t rfl) (res_t rfl) () trivial rfl (fun w h => h))
           | (refine s_isw ?_; first
           | refine c_seq ?_
           | refine c_block ?_
           | refine c_region ?_
           | refine c_mixed mixed (by kernel_rfl) ?_
           | refine c_skip ?_
           | refine c_ret ?_
           | refine c_exit ?_
           | (refine s_iscond ?_; first
           | (refine c_true rfl (by first | with_reducible rfl | with_reducible assumption | ((with_reducible refine decide_eq_true ?_); first | with_reducible rfl | with_reducible assumption | omega)) ?_)
           | (refine c_false rfl (by first | with_reducible rfl | with_reducible assumption | ((with_reducible refine decide_eq_false ?_); first | with_reducible assumption | omega)) ?_)
           | (refine c_true rfl (by first | (simp only [Bool.not_eq_true', decide_eq_false_iff_not]; omega) | (with_reducible assumption) | (rw [decide_eq_false] <;> (first | omega | with_reducible rfl)) | (rw [decide_eq_true] <;> (first | omega | with_reducible rfl)) | (simp; done) | (simp; omega)) ?_)
           | (refine c_false rfl (by first | (simp only [Bool.not_eq_false', decide_eq_true_eq]; omega) | (with_reducible assumption) | (rw [decide_eq_false] <;> (first | omega | with_reducible rfl)) | (rw [decide_eq_true] <;> (first | omega | with_reducible rfl)) | (simp; done) | (simp; omega)) ?_)
           | refine c_cond rfl (fun hc => ?_) (fun hc => ?_)
           | refine c_condb rfl (fun hc => ?_) (fun hc => ?_)))
           | refine x_then ?_
           | refine x_then_ret ?_
           | refine x_then_exit ?_
           | refine x_block _ ?_
           | refine x_block_ret _ ?_
           | refine x_block_exit _ ?_
           | refine x_block_past (by decide) ?_
           | refine z_tailm ?_)
           | (refine z_isg1 ?_; first
           | refine z_skipu (by decide) rfl rfl ?_
           | (refine z_want1 rfl rfl (by first | with_reducible rfl | with_reducible assumption | ((with_reducible refine decide_eq_true ?_); first | with_reducible rfl | with_reducible assumption | omega)) ?_)
           | (refine z_skip1 (by decide) rfl rfl (by first | with_reducible rfl | with_reducible assumption | ((with_reducible refine decide_eq_false ?_); first | with_reducible assumption | omega)) ?_)
           | (refine z_want1 rfl rfl (by first | (simp only [Bool.not_eq_true', decide_eq_false_iff_not]; omega) | (with_reducible assumption) | (rw [decide_eq_false] <;> (first | omega | with_reducible rfl)) | (rw [decide_eq_true] <;> (first | omega | with_reducible rfl)) | (simp; done) | (simp; omega)) ?_)
           | (refine z_skip1 (by decide) rfl rfl (by first | (simp only [Bool.not_eq_false', decide_eq_true_eq]; omega) | (with_reducible assumption) | (rw [decide_eq_false] <;> (first | omega | with_reducible rfl)) | (rw [decide_eq_true] <;> (first | omega | with_reducible rfl)) | (simp; done) | (simp; omega)) ?_)
           | refine z_guard1 (by decide) rfl rfl (fun hc => ?_) (fun hc => ?_)
           | refine z_guardb (by decide) rfl rfl (fun hc => ?_) (fun hc => ?_))
           | (refine z_isnil ?_; first
           | refine z_list ?_
           | refine z_mixed ?_
           | refine z_mono0 ?_
           | refine z_mono1 (by decide) fun g => ?_
           | refine z_mono2 (by decide) (by decide) fun g g' => ?_
           | refine z_mixedx ?_
           | refine z_quiet ?_)
           | (refine z_isop ?_; first
           | refine o_indexm tabOk rfl rfl rfl rfl (by omega) (by omega) (by decide) ?_
           | refine o_build0 (t := 102) (v := .agg Pe.zero.cs.toArray) (fun _ => by kernel_rfl) (by decide) ?_
           | refine o_build0 (t := 66) (v := .agg Pe.zero.cs.toArray) (fun _ => by kernel_rfl) (by decide) ?_
           | refine o_alloca (e := 102) (vs := Pe.zero.cs) rfl (by kernel_rfl) (by decide) fun g => ?_
           | refine o_alloca (e := 66) (vs := Pe.zero.cs) rfl (by kernel_rfl) (by decide) fun g => ?_
           | (refine z_isbin ?_; first
           | (refine z_isb .add ?_; first
           | refine o_add rfl rfl (by omega) (by omega) (by decide) ?_
           | refine o_addw rfl rfl (by decide) ?_)
           | (refine z_isb .eql ?_; first
           | refine o_eq rfl rfl (by decide) ?_
           | refine o_beq tabOk rfl rfl rfl (by decide) ?_
           | refine o_peq tabOk rfl rfl (by decide) ?_)
           | (refine z_isb .neq ?_; first
           | refine o_ne rfl rfl (by decide) ?_
           | refine o_bne tabOk rfl rfl rfl (by decide) ?_
           | refine o_pne tabOk rfl rfl (by decide) ?_)
           | (refine z_isb .leq ?_; first
           | refine o_le rfl rfl (by decide) ?_)
           | (refine z_isb .gtr ?_; first
           | refine o_gt rfl rfl (by decide) ?_))
           | (refine z_isload ?_; first
           | refine o_loadp tabOk rfl rfl rfl 0 rfl (pe_len _) (tcs_el _ (by omega)) (by decide) ?_
           | refine o_loadp tabOk rfl rfl rfl 1 rfl (pe_len _) (tcs_el _ (by omega)) (by decide) ?_
           | (refine z_ld1 tabOk rfl rfl ?_; first
           | refine o_loadm tabOk rfl rfl rfl (by repeat' (first | exact List.mem_cons_self | apply List.mem_cons_of_mem)) (by first | exact tcs_s _ (by omega) | exact tcs_p _ (by omega) | exact tcs_u _ (by omega) | exact pe_s _ | exact pe_p _ | exact pe_u _ | rfl) (by decide) ?_
           | refine o_loads tabOk (by first | assumption | exact Rds.cons _ (by assumption) | exact Rds.cons _ (Rds.cons _ (by assumption)) | exact own_rds 0 rfl | exact own_rds 1 rfl | exact own_rds 2 rfl) rfl rfl rfl (by first | exact tcs_s _ (by omega) | exact tcs_p _ (by omega) | exact tcs_u _ (by omega) | exact pe_s _ | exact pe_p _ | exact pe_u _ | rfl) (by decide) ?_)
           | (refine z_ldw tabOk rfl rfl ?_; first
           | refine o_loadwm tabOk rfl rfl rfl (by repeat' (first | exact List.mem_cons_self | apply List.mem_cons_of_mem)) (by first | exact tcs_len _ | exact pe_len _ | (simp only [tcs_len, pe_len]) | rfl) (by decide) ?_))
           | (refine z_isstore ?_; first
           | (refine o_storew_at rfl 0 tabOk rfl rfl rfl rfl (pe_len _) (pe_one _) (by rw [tcs_len, pe_len]; omega) (tcs_put _ (by omega) _) ?_)
           | (refine o_storew_at rfl 1 tabOk rfl rfl rfl rfl (pe_len _) (pe_one _) (by rw [tcs_len, pe_len]; omega) (tcs_put _ (by omega) _) ?_)
           | (refine z_stw rfl ?_; first
           | ((refine z_sti 0 rfl rfl ?_; refine o_storeb0 rfl tabOk rfl rfl rfl (by first | exact tcs_len _ | exact pe_len _ | (simp only [tcs_len, pe_len]) | rfl) (by first | exact tcs_one _ | exact pe_one _ | rfl) (by first | exact tcs_len _ | exact pe_len _ | (simp only [tcs_len, pe_len]) | rfl) ?_))
           | ((refine z_sti 1 rfl rfl ?_; refine o_storeb1 rfl tabOk rfl rfl rfl (by first | exact tcs_len _ | exact pe_len _ | (simp only [tcs_len, pe_len]) | rfl) (by first | exact tcs_one _ | exact pe_one _ | rfl) (by first | exact tcs_len _ | exact pe_len _ | (simp only [tcs_len, pe_len]) | rfl) ?_))
           | ((refine z_sti 2 rfl rfl ?_; refine o_storeb2 rfl tabOk rfl rfl rfl (by first | exact tcs_len _ | exact pe_len _ | (simp only [tcs_len, pe_len]) | rfl) (by first | exact tcs_one _ | exact pe_one _ | rfl) (by first | exact tcs_len _ | exact pe_len _ | (simp only [tcs_len, pe_len]) | rfl) ?_))
           | ((refine z_sti 3 rfl rfl ?_; refine o_storeb3 rfl tabOk rfl rfl rfl (by first | exact tcs_len _ | exact pe_len _ | (simp only [tcs_len, pe_len]) | rfl) (by first | exact tcs_one _ | exact pe_one _ | rfl) (by first | exact tcs_len _ | exact pe_len _ | (simp only [tcs_len, pe_len]) | rfl) ?_))
           | ((refine z_sti 4 rfl rfl ?_; refine o_storeb4 rfl tabOk rfl rfl rfl (by first | exact tcs_len _ | exact pe_len _ | (simp only [tcs_len, pe_len]) | rfl) (by first | exact tcs_one _ | exact pe_one _ | rfl) (by first | exact tcs_len _ | exact pe_len _ | (simp only [tcs_len, pe_len]) | rfl) ?_))
           | ((refine z_sti 5 rfl rfl ?_; refine o_storeb5 rfl tabOk rfl rfl rfl (by first | exact tcs_len _ | exact pe_len _ | (simp only [tcs_len, pe_len]) | rfl) (by first | exact tcs_one _ | exact pe_one _ | rfl) (by first | exact tcs_len _ | exact pe_len _ | (simp only [tcs_len, pe_len]) | rfl) ?_))
           | ((refine z_sti 6 rfl rfl ?_; refine o_storeb6 rfl tabOk rfl rfl rfl (by first | exact tcs_len _ | exact pe_len _ | (simp only [tcs_len, pe_len]) | rfl) (by first | exact tcs_one _ | exact pe_one _ | rfl) (by first | exact tcs_len _ | exact pe_len _ | (simp only [tcs_len, pe_len]) | rfl) ?_)))
           | (refine z_st1 rfl rfl ?_; first
           | refine o_store rfl tabOk rfl rfl rfl rfl rfl (by first | exact tcs_s _ (by omega) | exact tcs_p _ (by omega) | exact tcs_u _ (by omega) | exact pe_s _ | exact pe_p _ | exact pe_u _ | rfl) (by first | exact tcs_set_s _ (by omega) _ | exact tcs_set_p _ (by omega) _ | exact tcs_set_u _ (by omega) _ | rfl) ?_
           | ((refine z_sti 1 rfl rfl ?_; refine o_store1 rfl tabOk rfl rfl rfl rfl rfl (by first | exact tcs_s _ (by omega) | exact tcs_p _ (by omega) | exact tcs_u _ (by omega) | exact pe_s _ | exact pe_p _ | exact pe_u _ | rfl) (by first | exact tcs_set_s _ (by omega) _ | exact tcs_set_p _ (by omega) _ | exact tcs_set_u _ (by omega) _ | rfl) ?_))
           | ((refine z_sti 2 rfl rfl ?_; refine o_store2 rfl tabOk rfl rfl rfl rfl rfl (by first | exact tcs_s _ (by omega) | exact tcs_p _ (by omega) | exact tcs_u _ (by omega) | exact pe_s _ | exact pe_p _ | exact pe_u _ | rfl) (by first | exact tcs_set_s _ (by omega) _ | exact tcs_set_p _ (by omega) _ | exact tcs_set_u _ (by omega) _ | rfl) ?_))
           | ((refine z_sti 3 rfl rfl ?_; refine o_store3 rfl tabOk rfl rfl rfl rfl rfl (by first | exact tcs_s _ (by omega) | exact tcs_p _ (by omega) | exact tcs_u _ (by omega) | exact pe_s _ | exact pe_p _ | exact pe_u _ | rfl) (by first | exact tcs_set_s _ (by omega) _ | exact tcs_set_p _ (by omega) _ | exact tcs_set_u _ (by omega) _ | rfl) ?_))
           | ((refine z_sti 4 rfl rfl ?_; refine o_store4 rfl tabOk rfl rfl rfl rfl rfl (by first | exact tcs_s _ (by omega) | exact tcs_p _ (by omega) | exact tcs_u _ (by omega) | exact pe_s _ | exact pe_p _ | exact pe_u _ | rfl) (by first | exact tcs_set_s _ (by omega) _ | exact tcs_set_p _ (by omega) _ | exact tcs_set_u _ (by omega) _ | rfl) ?_))
           | ((refine z_sti 5 rfl rfl ?_; refine o_store5 rfl tabOk rfl rfl rfl rfl rfl (by first | exact tcs_s _ (by omega) | exact tcs_p _ (by omega) | exact tcs_u _ (by omega) | exact pe_s _ | exact pe_p _ | exact pe_u _ | rfl) (by first | exact tcs_set_s _ (by omega) _ | exact tcs_set_p _ (by omega) _ | exact tcs_set_u _ (by omega) _ | rfl) ?_))
           | ((refine z_sti 6 rfl rfl ?_; refine o_store6 rfl tabOk rfl rfl rfl rfl rfl (by first | exact tcs_s _ (by omega) | exact tcs_p _ (by omega) | exact tcs_u _ (by omega) | exact pe_s _ | exact pe_p _ | exact pe_u _ | rfl) (by first | exact tcs_set_s _ (by omega) _ | exact tcs_set_p _ (by omega) _ | exact tcs_set_u _ (by omega) _ | rfl) ?_))))
           | (refine z_iscall ?_; first
           | ((refine z_iscallf 54 ?_; refine o_callr rfl Try.func54 rfl rfl rfl (in_c _ _ _ _ (by first | exact cells_rds 0 rfl | exact cells_rds 1 rfl | exact cells_rds 2 rfl)) (by decide) ?_))
           | ((refine z_iscallf 57 ?_; refine o_callr rfl Try.func57 rfl rfl rfl (ralive_c _ _ _ _ (by first | exact cells_rds 0 rfl | exact cells_rds 1 rfl | exact cells_rds 2 rfl)) (by decide) ?_)))
           | (refine z_ispick ?_; first
           | (refine o_pick1 rfl (by first | with_reducible rfl | with_reducible assumption | ((with_reducible refine decide_eq_true ?_); first | with_reducible rfl | with_reducible assumption | omega)) rfl (by decide) ?_)
           | (refine o_pick0 rfl (by first | with_reducible rfl | with_reducible assumption | ((with_reducible refine decide_eq_false ?_); first | with_reducible assumption | omega)) rfl (by decide) ?_)
           | (refine o_pick1 rfl (by first | (simp only [Bool.not_eq_true', decide_eq_false_iff_not]; omega) | (with_reducible assumption) | (rw [decide_eq_false] <;> (first | omega | with_reducible rfl)) | (rw [decide_eq_true] <;> (first | omega | with_reducible rfl)) | (simp; done) | (simp; omega)) rfl (by decide) ?_)
           | (refine o_pick0 rfl (by first | (simp only [Bool.not_eq_false', decide_eq_true_eq]; omega) | (with_reducible assumption) | (rw [decide_eq_false] <;> (first | omega | with_reducible rfl)) | (rw [decide_eq_true] <;> (first | omega | with_reducible rfl)) | (simp; done) | (simp; omega)) rfl (by decide) ?_))
           | (refine z_isix ?_; first
           | refine o_index0 tabOk rfl rfl rfl rfl (by omega) (by omega) (by decide) ?_
           | refine o_index1 tabOk rfl rfl rfl rfl (by omega) (by omega) (by decide) ?_
           | refine o_indexsk1 tabOk rfl rfl rfl rfl (by omega) (by omega) (by decide) ?_
           | refine o_indexsk tabOk rfl rfl rfl rfl (by omega) (by omega) (by decide) ?_
           | refine o_indexs1 tabOk (by first | assumption) rfl rfl rfl rfl (by omega) (by omega) (by decide) ?_)
           | refine o_move rfl (by decide) ?_
           | refine o_assign rfl (by decide) ?_
           | refine o_nil rfl (by decide) ?_
           | refine o_extract rfl rfl (by decide) ?_
           | refine o_not rfl (by decide) ?_
           | refine o_field0 tabOk rfl rfl rfl rfl rfl (by decide) ?_
           | refine o_field tabOk rfl rfl rfl rfl rfl (by decide) ?_
           | refine o_conv tabOk rfl rfl rfl (by decide) ?_))
  · have g1 : (!inB e i) = true := by rw [hin]; rfl
    rw [exit_no hin]
    repeat' (first
     | (refine s_is ?_; first
     | (refine s_isret ?_; first
     | exact f_r2 rfl (res_t rfl) (res_t rfl) () trivial rfl (fun w h => h))
     | (refine s_isw ?_; first
     | refine c_seq ?_
     | refine c_block ?_
     | refine c_region ?_
     | refine c_mixed mixed (by kernel_rfl) ?_
     | refine c_skip ?_
     | refine c_ret ?_
     | refine c_exit ?_
     | (refine s_iscond ?_; first
     | (refine c_true rfl (by first | with_reducible rfl | with_reducible assumption | ((with_reducible refine decide_eq_true ?_); first | with_reducible rfl | with_reducible assumption | omega)) ?_)
     | (refine c_false rfl (by first | with_reducible rfl | with_reducible assumption | ((with_reducible refine decide_eq_false ?_); first | with_reducible assumption | omega)) ?_)
     | (refine c_true rfl (by first | (simp only [Bool.not_eq_true', decide_eq_false_iff_not]; omega) | (with_reducible assumption) | (rw [decide_eq_false] <;> (first | omega | with_reducible rfl)) | (rw [decide_eq_true] <;> (first | omega | with_reducible rfl)) | (simp; done) | (simp; omega)) ?_)
     | (refine c_false rfl (by first | (simp only [Bool.not_eq_false', decide_eq_true_eq]; omega) | (with_reducible assumption) | (rw [decide_eq_false] <;> (first | omega | with_reducible rfl)) | (rw [decide_eq_true] <;> (first | omega | with_reducible rfl)) | (simp; done) | (simp; omega)) ?_)
     | refine c_cond rfl (fun hc => ?_) (fun hc => ?_)
     | refine c_condb rfl (fun hc => ?_) (fun hc => ?_)))
     | refine x_then ?_
     | refine x_then_ret ?_
     | refine x_then_exit ?_
     | refine x_block _ ?_
     | refine x_block_ret _ ?_
     | refine x_block_exit _ ?_
     | refine x_block_past (by decide) ?_
     | refine z_tailm ?_)
     | (refine z_isg1 ?_; first
     | refine z_skipu (by decide) rfl rfl ?_
     | (refine z_want1 rfl rfl (by first | with_reducible rfl | with_reducible assumption | ((with_reducible refine decide_eq_true ?_); first | with_reducible rfl | with_reducible assumption | omega)) ?_)
     | (refine z_skip1 (by decide) rfl rfl (by first | with_reducible rfl | with_reducible assumption | ((with_reducible refine decide_eq_false ?_); first | with_reducible assumption | omega)) ?_)
     | (refine z_want1 rfl rfl (by first | (simp only [Bool.not_eq_true', decide_eq_false_iff_not]; omega) | (with_reducible assumption) | (rw [decide_eq_false] <;> (first | omega | with_reducible rfl)) | (rw [decide_eq_true] <;> (first | omega | with_reducible rfl)) | (simp; done) | (simp; omega)) ?_)
     | (refine z_skip1 (by decide) rfl rfl (by first | (simp only [Bool.not_eq_false', decide_eq_true_eq]; omega) | (with_reducible assumption) | (rw [decide_eq_false] <;> (first | omega | with_reducible rfl)) | (rw [decide_eq_true] <;> (first | omega | with_reducible rfl)) | (simp; done) | (simp; omega)) ?_)
     | refine z_guard1 (by decide) rfl rfl (fun hc => ?_) (fun hc => ?_)
     | refine z_guardb (by decide) rfl rfl (fun hc => ?_) (fun hc => ?_))
     | (refine z_isnil ?_; first
     | refine z_list ?_
     | refine z_mixed ?_
     | refine z_mono0 ?_
     | refine z_mono1 (by decide) fun g => ?_
     | refine z_mono2 (by decide) (by decide) fun g g' => ?_
     | refine z_mixedx ?_
     | refine z_quiet ?_)
     | (refine z_isop ?_; first
     | refine o_indexm tabOk rfl rfl rfl rfl (by omega) (by omega) (by decide) ?_
     | refine o_build0 (t := 102) (v := .agg Pe.zero.cs.toArray) (fun _ => by kernel_rfl) (by decide) ?_
     | refine o_build0 (t := 66) (v := .agg Pe.zero.cs.toArray) (fun _ => by kernel_rfl) (by decide) ?_
     | refine o_alloca (e := 102) (vs := Pe.zero.cs) rfl (by kernel_rfl) (by decide) fun g => ?_
     | refine o_alloca (e := 66) (vs := Pe.zero.cs) rfl (by kernel_rfl) (by decide) fun g => ?_
     | (refine z_isbin ?_; first
     | (refine z_isb .add ?_; first
     | refine o_add rfl rfl (by omega) (by omega) (by decide) ?_
     | refine o_addw rfl rfl (by decide) ?_)
     | (refine z_isb .eql ?_; first
     | refine o_eq rfl rfl (by decide) ?_
     | refine o_beq tabOk rfl rfl rfl (by decide) ?_
     | refine o_peq tabOk rfl rfl (by decide) ?_)
     | (refine z_isb .neq ?_; first
     | refine o_ne rfl rfl (by decide) ?_
     | refine o_bne tabOk rfl rfl rfl (by decide) ?_
     | refine o_pne tabOk rfl rfl (by decide) ?_)
     | (refine z_isb .leq ?_; first
     | refine o_le rfl rfl (by decide) ?_)
     | (refine z_isb .gtr ?_; first
     | refine o_gt rfl rfl (by decide) ?_))
     | (refine z_isload ?_; first
     | refine o_loadp tabOk rfl rfl rfl 0 rfl (pe_len _) (tcs_el _ (by omega)) (by decide) ?_
     | refine o_loadp tabOk rfl rfl rfl 1 rfl (pe_len _) (tcs_el _ (by omega)) (by decide) ?_
     | (refine z_ld1 tabOk rfl rfl ?_; first
     | refine o_loadm tabOk rfl rfl rfl (by repeat' (first | exact List.mem_cons_self | apply List.mem_cons_of_mem)) (by first | exact tcs_s _ (by omega) | exact tcs_p _ (by omega) | exact tcs_u _ (by omega) | exact pe_s _ | exact pe_p _ | exact pe_u _ | rfl) (by decide) ?_
     | refine o_loads tabOk (by first | assumption | exact Rds.cons _ (by assumption) | exact Rds.cons _ (Rds.cons _ (by assumption)) | exact own_rds 0 rfl | exact own_rds 1 rfl | exact own_rds 2 rfl) rfl rfl rfl (by first | exact tcs_s _ (by omega) | exact tcs_p _ (by omega) | exact tcs_u _ (by omega) | exact pe_s _ | exact pe_p _ | exact pe_u _ | rfl) (by decide) ?_)
     | (refine z_ldw tabOk rfl rfl ?_; first
     | refine o_loadwm tabOk rfl rfl rfl (by repeat' (first | exact List.mem_cons_self | apply List.mem_cons_of_mem)) (by first | exact tcs_len _ | exact pe_len _ | (simp only [tcs_len, pe_len]) | rfl) (by decide) ?_))
     | (refine z_isstore ?_; first
     | (refine o_storew_at rfl 0 tabOk rfl rfl rfl rfl (pe_len _) (pe_one _) (by rw [tcs_len, pe_len]; omega) (tcs_put _ (by omega) _) ?_)
     | (refine o_storew_at rfl 1 tabOk rfl rfl rfl rfl (pe_len _) (pe_one _) (by rw [tcs_len, pe_len]; omega) (tcs_put _ (by omega) _) ?_)
     | (refine z_stw rfl ?_; first
     | ((refine z_sti 0 rfl rfl ?_; refine o_storeb0 rfl tabOk rfl rfl rfl (by first | exact tcs_len _ | exact pe_len _ | (simp only [tcs_len, pe_len]) | rfl) (by first | exact tcs_one _ | exact pe_one _ | rfl) (by first | exact tcs_len _ | exact pe_len _ | (simp only [tcs_len, pe_len]) | rfl) ?_))
     | ((refine z_sti 1 rfl rfl ?_; refine o_storeb1 rfl tabOk rfl rfl rfl (by first | exact tcs_len _ | exact pe_len _ | (simp only [tcs_len, pe_len]) | rfl) (by first | exact tcs_one _ | exact pe_one _ | rfl) (by first | exact tcs_len _ | exact pe_len _ | (simp only [tcs_len, pe_len]) | rfl) ?_))
     | ((refine z_sti 2 rfl rfl ?_; refine o_storeb2 rfl tabOk rfl rfl rfl (by first | exact tcs_len _ | exact pe_len _ | (simp only [tcs_len, pe_len]) | rfl) (by first | exact tcs_one _ | exact pe_one _ | rfl) (by first | exact tcs_len _ | exact pe_len _ | (simp only [tcs_len, pe_len]) | rfl) ?_))
     | ((refine z_sti 3 rfl rfl ?_; refine o_storeb3 rfl tabOk rfl rfl rfl (by first | exact tcs_len _ | exact pe_len _ | (simp only [tcs_len, pe_len]) | rfl) (by first | exact tcs_one _ | exact pe_one _ | rfl) (by first | exact tcs_len _ | exact pe_len _ | (simp only [tcs_len, pe_len]) | rfl) ?_))
     | ((refine z_sti 4 rfl rfl ?_; refine o_storeb4 rfl tabOk rfl rfl rfl (by first | exact tcs_len _ | exact pe_len _ | (simp only [tcs_len, pe_len]) | rfl) (by first | exact tcs_one _ | exact pe_one _ | rfl) (by first | exact tcs_len _ | exact pe_len _ | (simp only [tcs_len, pe_len]) | rfl) ?_))
     | ((refine z_sti 5 rfl rfl ?_; refine o_storeb5 rfl tabOk rfl rfl rfl (by first | exact tcs_len _ | exact pe_len _ | (simp only [tcs_len, pe_len]) | rfl) (by first | exact tcs_one _ | exact pe_one _ | rfl) (by first | exact tcs_len _ | exact pe_len _ | (simp only [tcs_len, pe_len]) | rfl) ?_))
     | ((refine z_sti 6 rfl rfl ?_; refine o_storeb6 rfl tabOk rfl rfl rfl (by first | exact tcs_len _ | exact pe_len _ | (simp only [tcs_len, pe_len]) | rfl) (by first | exact tcs_one _ | exact pe_one _ | rfl) (by first | exact tcs_len _ | exact pe_len _ | (simp only [tcs_len, pe_len]) | rfl) ?_)))
     | (refine z_st1 rfl rfl ?_; first
     | refine o_store rfl tabOk rfl rfl rfl rfl rfl (by first | exact tcs_s _ (by omega) | exact tcs_p _ (by omega) | exact tcs_u _ (by omega) | exact pe_s _ | exact pe_p _ | exact pe_u _ | rfl) (by first | exact tcs_set_s _ (by omega) _ | exact tcs_set_p _ (by omega) _ | exact tcs_set_u _ (by omega) _ | rfl) ?_
     | ((refine z_sti 1 rfl rfl ?_; refine o_store1 rfl tabOk rfl rfl rfl rfl rfl (by first | exact tcs_s _ (by omega) | exact tcs_p _ (by omega) | exact tcs_u _ (by omega) | exact pe_s _ | exact pe_p _ | exact pe_u _ | rfl) (by first | exact tcs_set_s _ (by omega) _ | exact tcs_set_p _ (by omega) _ | exact tcs_set_u _ (by omega) _ | rfl) ?_))
     | ((refine z_sti 2 rfl rfl ?_; refine o_store2 rfl tabOk rfl rfl rfl rfl rfl (by first | exact tcs_s _ (by omega) | exact tcs_p _ (by omega) | exact tcs_u _ (by omega) | exact pe_s _ | exact pe_p _ | exact pe_u _ | rfl) (by first | exact tcs_set_s _ (by omega) _ | exact tcs_set_p _ (by omega) _ | exact tcs_set_u _ (by omega) _ | rfl) ?_))
     | ((refine z_sti 3 rfl rfl ?_; refine o_store3 rfl tabOk rfl rfl rfl rfl rfl (by first | exact tcs_s _ (by omega) | exact tcs_p _ (by omega) | exact tcs_u _ (by omega) | exact pe_s _ | exact pe_p _ | exact pe_u _ | rfl) (by first | exact tcs_set_s _ (by omega) _ | exact tcs_set_p _ (by omega) _ | exact tcs_set_u _ (by omega) _ | rfl) ?_))
     | ((refine z_sti 4 rfl rfl ?_; refine o_store4 rfl tabOk rfl rfl rfl rfl rfl (by first | exact tcs_s _ (by omega) | exact tcs_p _ (by omega) | exact tcs_u _ (by omega) | exact pe_s _ | exact pe_p _ | exact pe_u _ | rfl) (by first | exact tcs_set_s _ (by omega) _ | exact tcs_set_p _ (by omega) _ | exact tcs_set_u _ (by omega) _ | rfl) ?_))
     | ((refine z_sti 5 rfl rfl ?_; refine o_store5 rfl tabOk rfl rfl rfl rfl rfl (by first | exact tcs_s _ (by omega) | exact tcs_p _ (by omega) | exact tcs_u _ (by omega) | exact pe_s _ | exact pe_p _ | exact pe_u _ | rfl) (by first | exact tcs_set_s _ (by omega) _ | exact tcs_set_p _ (by omega) _ | exact tcs_set_u _ (by omega) _ | rfl) ?_))
     | ((refine z_sti 6 rfl rfl ?_; refine o_store6 rfl tabOk rfl rfl rfl rfl rfl (by first | exact tcs_s _ (by omega) | exact tcs_p _ (by omega) | exact tcs_u _ (by omega) | exact pe_s _ | exact pe_p _ | exact pe_u _ | rfl) (by first | exact tcs_set_s _ (by omega) _ | exact tcs_set_p _ (by omega) _ | exact tcs_set_u _ (by omega) _ | rfl) ?_))))
     | (refine z_iscall ?_; first
     | ((refine z_iscallf 54 ?_; refine o_callr rfl Try.func54 rfl rfl rfl (in_c _ _ _ _ (by first | exact cells_rds 0 rfl | exact cells_rds 1 rfl | exact cells_rds 2 rfl)) (by decide) ?_))
     | ((refine z_iscallf 57 ?_; refine o_callr rfl Try.func57 rfl rfl rfl (ralive_c _ _ _ _ (by first | exact cells_rds 0 rfl | exact cells_rds 1 rfl | exact cells_rds 2 rfl)) (by decide) ?_)))
     | (refine z_ispick ?_; first
     | (refine o_pick1 rfl (by first | with_reducible rfl | with_reducible assumption | ((with_reducible refine decide_eq_true ?_); first | with_reducible rfl | with_reducible assumption | omega)) rfl (by decide) ?_)
     | (refine o_pick0 rfl (by first | with_reducible rfl | with_reducible assumption | ((with_reducible refine decide_eq_false ?_); first | with_reducible assumption | omega)) rfl (by decide) ?_)
     | (refine o_pick1 rfl (by first | (simp only [Bool.not_eq_true', decide_eq_false_iff_not]; omega) | (with_reducible assumption) | (rw [decide_eq_false] <;> (first | omega | with_reducible rfl)) | (rw [decide_eq_true] <;> (first | omega | with_reducible rfl)) | (simp; done) | (simp; omega)) rfl (by decide) ?_)
     | (refine o_pick0 rfl (by first | (simp only [Bool.not_eq_false', decide_eq_true_eq]; omega) | (with_reducible assumption) | (rw [decide_eq_false] <;> (first | omega | with_reducible rfl)) | (rw [decide_eq_true] <;> (first | omega | with_reducible rfl)) | (simp; done) | (simp; omega)) rfl (by decide) ?_))
     | (refine z_isix ?_; first
     | refine o_index0 tabOk rfl rfl rfl rfl (by omega) (by omega) (by decide) ?_
     | refine o_index1 tabOk rfl rfl rfl rfl (by omega) (by omega) (by decide) ?_
     | refine o_indexsk1 tabOk rfl rfl rfl rfl (by omega) (by omega) (by decide) ?_
     | refine o_indexsk tabOk rfl rfl rfl rfl (by omega) (by omega) (by decide) ?_
     | refine o_indexs1 tabOk (by first | assumption) rfl rfl rfl rfl (by omega) (by omega) (by decide) ?_)
     | refine o_move rfl (by decide) ?_
     | refine o_assign rfl (by decide) ?_
     | refine o_nil rfl (by decide) ?_
     | refine o_extract rfl rfl (by decide) ?_
     | refine o_not rfl (by decide) ?_
     | refine o_field0 tabOk rfl rfl rfl rfl rfl (by decide) ?_
     | refine o_field tabOk rfl rfl rfl rfl rfl (by decide) ?_
     | refine o_conv tabOk rfl rfl rfl (by decide) ?_))
end Go.Proofs.Ytmfnjmmdchlkiaa
