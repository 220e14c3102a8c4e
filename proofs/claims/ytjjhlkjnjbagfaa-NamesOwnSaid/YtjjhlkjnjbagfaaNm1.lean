/-
Names: the same; through one another; so many named as they are.
-/
import Derived.Test.YtjjhlkjnjbagfaaNmL
namespace Go.Proofs.Ytjjhlkjnjbagfaa
set_option linter.unusedVariables false
set_option linter.unusedSimpArgs false
open Eng
theorem gv_eq {L M : List Int} {i j : Int} (h : gt L i = gt M j) : gv L i = gv M j := by unfold gv; rw [h]
attribute [local irreducible] Eng.Hold Eng.Z Eng.S Eng.cells Eng.old Eng.own il fi gt addL drL nmN
attribute [local irreducible] ix fd gv Dn.cs mk dee mkc thr sm owL
theorem tsame_c (L M : List Int) (hL : Nm L) (hM : Nm M) (A B : Option Addr) (c e : Nat) (fr : List Chunk) (hrd : Rds fr A (il L)) (hrd2 : Rds fr B (il M)) (hx : L.length ≤ 1000000) (hx2 : M.length ≤ 1000000) :
    Does Try.prog 36 [.agg #[.slice A L.length c], .agg #[.slice B M.length e]] fr (fun _ : Unit => True) (fun _ => .bool (sm L M (max L.length M.length))) (fun _ => fr) := by
  intro w hw
  refine f_enter Try.func36 rfl Try.ntmps36 rfl hw ?_
  repeat' (first
   | ((refine z_isdst 2 ?_; refine o_boxa (vs := [.slice A L.length c]) rfl rfl (by decide) fun ga => ?_))
   | ((refine z_isdst 3 ?_; refine o_boxa (vs := [.slice B M.length e]) rfl rfl (by decide) fun gb => ?_))
   | ((refine z_isdst 23 ?_; refine o_callr rfl Try.func42 rfl rfl rfl (get_c L hL _ _ _ _ (by (repeat (first | exact hrd | apply Rds.cons)); done) (by omega)) (by decide) ?_))
   | ((refine z_isdst 29 ?_; refine o_callr rfl Try.func42 rfl rfl rfl (get_c M hM _ _ _ _ (by (repeat (first | exact hrd2 | apply Rds.cons)); done) (by omega)) (by decide) ?_))
   | (refine s_is ?_; first
   | (refine s_isw ?_; first
   | (refine s_isloop ?_; first
   | ((refine c_loop (X := Nat) (fun k => k ≤ max L.length M.length ∧ sm L M k = true) (fun k => [(2, .pointer (some ⟨ga, 0, none⟩)), (3, .pointer (some ⟨gb, 0, none⟩)), (16, .int .i64 (max (L.length : Int) (M.length : Int))), (17, .int .i64 k)]) (fun _ => cells gb 27 [.slice B M.length e] :: cells ga 27 [.slice A L.length c] :: fr) (fun k => max L.length M.length - k) 0 ⟨Nat.zero_le _, sm_zero L M⟩ ⟨rfl, rfl, rfl, rfl, trivial⟩ (fun w h => h) (fun k hk => ?_); obtain ⟨hk, hs⟩ := hk; refine hold ?_)))
   | refine c_seq ?_
   | refine c_block ?_
   | refine c_region ?_
   | refine c_mixed mixed (by kernel_rfl) ?_
   | refine c_skip ?_
   | refine c_ret ?_
   | refine c_exit ?_
   | (refine s_iscond ?_; first
   | (refine c_true rfl (by first | with_reducible rfl | with_reducible assumption | ((with_reducible refine decide_eq_true ?_); first | with_reducible rfl | with_reducible assumption | omega)) ?_)
   | (refine c_false rfl (by first | with_reducible rfl | with_reducible assumption | ((with_reducible refine decide_eq_false ?_); first | with_reducible assumption | omega)) ?_)
   | (refine c_true rfl (by first | (simp only [Bool.not_eq_true', decide_eq_false_iff_not]; omega) | (with_reducible assumption) | (rw [decide_eq_false] <;> (first | omega | with_reducible rfl)) | (rw [decide_eq_true] <;> (first | omega | with_reducible rfl)) | (simp; done) | (simp; omega)) ?_)
   | (refine c_false rfl (by first | (simp only [Bool.not_eq_false', decide_eq_true_eq]; omega) | (with_reducible assumption) | (rw [decide_eq_false] <;> (first | omega | with_reducible rfl)) | (rw [decide_eq_true] <;> (first | omega | with_reducible rfl)) | (simp; done) | (simp; omega)) ?_)
   | refine c_cond rfl (fun hc => ?_) (fun hc => ?_)
   | refine c_condb rfl (fun hc => ?_) (fun hc => ?_)))
   | refine x_then ?_
   | refine x_then_ret ?_
   | refine x_then_exit ?_
   | refine x_block _ ?_
   | refine x_block_ret _ ?_
   | refine x_block_exit _ ?_
   | refine x_block_past (by decide) ?_
   | refine z_tailm ?_)
   | (refine z_isg0 ?_; first
   | refine z_skipu (by decide) rfl rfl ?_
   | (refine z_want0 rfl rfl (by first | with_reducible rfl | with_reducible assumption | ((with_reducible refine decide_eq_false ?_); first | with_reducible assumption | omega)) ?_)
   | (refine z_skip0 (by decide) rfl rfl (by first | with_reducible rfl | with_reducible assumption | ((with_reducible refine decide_eq_true ?_); first | with_reducible rfl | with_reducible assumption | omega)) ?_)
   | (refine z_want0 rfl rfl (by first | (simp only [Bool.not_eq_false', decide_eq_true_eq]; omega) | (with_reducible assumption) | (rw [decide_eq_false] <;> (first | omega | with_reducible rfl)) | (rw [decide_eq_true] <;> (first | omega | with_reducible rfl)) | (simp; done) | (simp; omega)) ?_)
   | (refine z_skip0 (by decide) rfl rfl (by first | (simp only [Bool.not_eq_true', decide_eq_false_iff_not]; omega) | (with_reducible assumption) | (rw [decide_eq_false] <;> (first | omega | with_reducible rfl)) | (rw [decide_eq_true] <;> (first | omega | with_reducible rfl)) | (simp; done) | (simp; omega)) ?_)
   | refine z_guard0 (by decide) rfl rfl (fun hc => ?_) (fun hc => ?_)
   | refine z_guardb (by decide) rfl rfl (fun hc => ?_) (fun hc => ?_))
   | (refine z_isnil ?_; first
   | refine z_list ?_
   | refine z_mixed ?_
   | refine z_mono0 ?_
   | refine z_mono1 (by decide) fun g => ?_
   | refine z_mono2 (by decide) (by decide) fun g g' => ?_
   | refine z_mixedx ?_
   | refine z_quiet ?_)
   | (refine z_isop ?_; first
   | (refine z_isbin ?_; first
   | (refine z_isb .add ?_; first
   | refine o_add rfl rfl (by omega) (by omega) (by decide) ?_
   | refine o_addw rfl rfl (by decide) ?_)
   | (refine z_isb .neq ?_; first
   | refine o_ne rfl rfl (by decide) ?_
   | refine o_bne tabOk rfl rfl rfl (by decide) ?_
   | refine o_pne tabOk rfl rfl (by decide) ?_)
   | (refine z_isb .lss ?_; first
   | refine o_lt rfl rfl (by decide) ?_))
   | (refine z_isload ?_; first
   | (refine z_ld1 tabOk rfl rfl ?_; first
   | refine o_loadm tabOk rfl rfl rfl (by repeat' (first | exact List.mem_cons_self | apply List.mem_cons_of_mem)) (by first | exact il_at _ (by omega) | rfl | rfl) (by decide) ?_
   | refine o_loads tabOk (by first | exact hrd | exact Rds.cons _ hrd | exact Rds.cons _ (Rds.cons _ hrd) | exact Rds.cons _ (Rds.cons _ (Rds.cons _ hrd)) | exact own_rds 0 rfl | exact own_rds 1 rfl | exact own_rds 2 rfl | assumption) rfl rfl rfl (by first | exact il_at _ (by omega) | rfl | rfl) (by decide) ?_)
   | (refine z_ldw tabOk rfl rfl ?_; first
   | (refine o_loadwm tabOk rfl rfl rfl (by repeat' (first | exact List.mem_cons_self | apply List.mem_cons_of_mem)) (by first | rfl | exact il_len _ | (simp only [il_len]; done) | rfl) (by decide) ?_)))
   | (refine z_ispick ?_; first
   | (refine o_pick1 rfl (by first | with_reducible rfl | with_reducible assumption | ((with_reducible refine decide_eq_true ?_); first | with_reducible rfl | with_reducible assumption | omega)) rfl (by decide) ?_)
   | (refine o_pick0 rfl (by first | with_reducible rfl | with_reducible assumption | ((with_reducible refine decide_eq_false ?_); first | with_reducible assumption | omega)) rfl (by decide) ?_)
   | (refine o_pick1 rfl (by first | (simp only [Bool.not_eq_true', decide_eq_false_iff_not]; omega) | (with_reducible assumption) | (rw [decide_eq_false] <;> (first | omega | with_reducible rfl)) | (rw [decide_eq_true] <;> (first | omega | with_reducible rfl)) | (simp; done) | (simp; omega)) rfl (by decide) ?_)
   | (refine o_pick0 rfl (by first | (simp only [Bool.not_eq_false', decide_eq_true_eq]; omega) | (with_reducible assumption) | (rw [decide_eq_false] <;> (first | omega | with_reducible rfl)) | (rw [decide_eq_true] <;> (first | omega | with_reducible rfl)) | (simp; done) | (simp; omega)) rfl (by decide) ?_))
   | (refine z_isbi ?_; first
   | refine o_len tabOk rfl rfl (by decide) ?_
   | refine o_min rfl rfl (by decide) ?_
   | refine o_max rfl rfl (by decide) ?_)
   | refine o_move rfl (by decide) ?_
   | refine o_assign rfl (by decide) ?_
   | refine o_nil rfl (by decide) ?_
   | refine o_extract rfl rfl (by decide) ?_
   | refine o_not rfl (by decide) ?_
   | refine o_field0 tabOk rfl rfl rfl rfl rfl (by decide) ?_
   | refine o_field tabOk rfl rfl rfl rfl rfl (by decide) ?_
   | refine o_conv tabOk rfl rfl rfl (by decide) ?_))
  refine Hold.go ?_
  by_cases hl : k < max L.length M.length
  · have hss := sm_succ L M k
    by_cases he : gt L (k : Int) = gt M (k : Int)
    · have hv := gv_eq (L := L) (M := M) he
      have e1 : (!(decide (0 ≤ gt L (k : Int)) == decide (0 ≤ gt M (k : Int)))) = false := by rw [he]; simp
      have hs1 : sm L M (k + 1) = true := by rw [hss, hs, decide_eq_true he]; rfl
      repeat' (first
       | ((refine z_isdst 2 ?_; refine o_boxa (vs := [.slice A L.length c]) rfl rfl (by decide) fun ga => ?_))
       | ((refine z_isdst 3 ?_; refine o_boxa (vs := [.slice B M.length e]) rfl rfl (by decide) fun gb => ?_))
       | ((refine z_isdst 23 ?_; refine o_callr rfl Try.func42 rfl rfl rfl (get_c L hL _ _ _ _ (by (repeat (first | exact hrd | apply Rds.cons)); done) (by omega)) (by decide) ?_))
       | ((refine z_isdst 29 ?_; refine o_callr rfl Try.func42 rfl rfl rfl (get_c M hM _ _ _ _ (by (repeat (first | exact hrd2 | apply Rds.cons)); done) (by omega)) (by decide) ?_))
       | (refine s_is ?_; first
       | (refine s_isagain ?_; first
       | exact c_again (k + 1) ⟨by omega, hs1⟩ (by omega) ⟨rfl, rfl, rfl, rfl, trivial⟩ (fun w h => h))
       | (refine s_isw ?_; first
       | refine c_seq ?_
       | refine c_block ?_
       | refine c_region ?_
       | refine c_mixed mixed (by kernel_rfl) ?_
       | refine c_skip ?_
       | refine c_ret ?_
       | refine c_exit ?_
       | (refine s_iscond ?_; first
       | (refine c_true rfl (by first | with_reducible rfl | with_reducible assumption | ((with_reducible refine decide_eq_true ?_); first | with_reducible rfl | with_reducible assumption | omega)) ?_)
       | (refine c_false rfl (by first | with_reducible rfl | with_reducible assumption | ((with_reducible refine decide_eq_false ?_); first | with_reducible assumption | omega)) ?_)
       | (refine c_true rfl (by first | (simp only [Bool.not_eq_true', decide_eq_false_iff_not]; omega) | (with_reducible assumption) | (rw [decide_eq_false] <;> (first | omega | with_reducible rfl)) | (rw [decide_eq_true] <;> (first | omega | with_reducible rfl)) | (simp; done) | (simp; omega)) ?_)
       | (refine c_false rfl (by first | (simp only [Bool.not_eq_false', decide_eq_true_eq]; omega) | (with_reducible assumption) | (rw [decide_eq_false] <;> (first | omega | with_reducible rfl)) | (rw [decide_eq_true] <;> (first | omega | with_reducible rfl)) | (simp; done) | (simp; omega)) ?_)
       | refine c_cond rfl (fun hc => ?_) (fun hc => ?_)
       | refine c_condb rfl (fun hc => ?_) (fun hc => ?_)))
       | refine x_then ?_
       | refine x_then_ret ?_
       | refine x_then_exit ?_
       | refine x_block _ ?_
       | refine x_block_ret _ ?_
       | refine x_block_exit _ ?_
       | refine x_block_past (by decide) ?_
       | refine z_tailm ?_)
       | (refine z_isg0 ?_; first
       | refine z_skipu (by decide) rfl rfl ?_
       | (refine z_want0 rfl rfl (by first | with_reducible rfl | with_reducible assumption | ((with_reducible refine decide_eq_false ?_); first | with_reducible assumption | omega)) ?_)
       | (refine z_skip0 (by decide) rfl rfl (by first | with_reducible rfl | with_reducible assumption | ((with_reducible refine decide_eq_true ?_); first | with_reducible rfl | with_reducible assumption | omega)) ?_)
       | (refine z_want0 rfl rfl (by first | (simp only [Bool.not_eq_false', decide_eq_true_eq]; omega) | (with_reducible assumption) | (rw [decide_eq_false] <;> (first | omega | with_reducible rfl)) | (rw [decide_eq_true] <;> (first | omega | with_reducible rfl)) | (simp; done) | (simp; omega)) ?_)
       | (refine z_skip0 (by decide) rfl rfl (by first | (simp only [Bool.not_eq_true', decide_eq_false_iff_not]; omega) | (with_reducible assumption) | (rw [decide_eq_false] <;> (first | omega | with_reducible rfl)) | (rw [decide_eq_true] <;> (first | omega | with_reducible rfl)) | (simp; done) | (simp; omega)) ?_)
       | refine z_guard0 (by decide) rfl rfl (fun hc => ?_) (fun hc => ?_)
       | refine z_guardb (by decide) rfl rfl (fun hc => ?_) (fun hc => ?_))
       | (refine z_isnil ?_; first
       | refine z_list ?_
       | refine z_mixed ?_
       | refine z_mono0 ?_
       | refine z_mono1 (by decide) fun g => ?_
       | refine z_mono2 (by decide) (by decide) fun g g' => ?_
       | refine z_mixedx ?_
       | refine z_quiet ?_)
       | (refine z_isop ?_; first
       | (refine z_isbin ?_; first
       | (refine z_isb .add ?_; first
       | refine o_add rfl rfl (by omega) (by omega) (by decide) ?_
       | refine o_addw rfl rfl (by decide) ?_)
       | (refine z_isb .neq ?_; first
       | refine o_ne rfl rfl (by decide) ?_
       | refine o_bne tabOk rfl rfl rfl (by decide) ?_
       | refine o_pne tabOk rfl rfl (by decide) ?_)
       | (refine z_isb .lss ?_; first
       | refine o_lt rfl rfl (by decide) ?_))
       | (refine z_isload ?_; first
       | (refine z_ld1 tabOk rfl rfl ?_; first
       | refine o_loadm tabOk rfl rfl rfl (by repeat' (first | exact List.mem_cons_self | apply List.mem_cons_of_mem)) (by first | exact il_at _ (by omega) | rfl | rfl) (by decide) ?_
       | refine o_loads tabOk (by first | exact hrd | exact Rds.cons _ hrd | exact Rds.cons _ (Rds.cons _ hrd) | exact Rds.cons _ (Rds.cons _ (Rds.cons _ hrd)) | exact own_rds 0 rfl | exact own_rds 1 rfl | exact own_rds 2 rfl | assumption) rfl rfl rfl (by first | exact il_at _ (by omega) | rfl | rfl) (by decide) ?_)
       | (refine z_ldw tabOk rfl rfl ?_; first
       | (refine o_loadwm tabOk rfl rfl rfl (by repeat' (first | exact List.mem_cons_self | apply List.mem_cons_of_mem)) (by first | rfl | exact il_len _ | (simp only [il_len]; done) | rfl) (by decide) ?_)))
       | (refine z_ispick ?_; first
       | (refine o_pick1 rfl (by first | with_reducible rfl | with_reducible assumption | ((with_reducible refine decide_eq_true ?_); first | with_reducible rfl | with_reducible assumption | omega)) rfl (by decide) ?_)
       | (refine o_pick0 rfl (by first | with_reducible rfl | with_reducible assumption | ((with_reducible refine decide_eq_false ?_); first | with_reducible assumption | omega)) rfl (by decide) ?_)
       | (refine o_pick1 rfl (by first | (simp only [Bool.not_eq_true', decide_eq_false_iff_not]; omega) | (with_reducible assumption) | (rw [decide_eq_false] <;> (first | omega | with_reducible rfl)) | (rw [decide_eq_true] <;> (first | omega | with_reducible rfl)) | (simp; done) | (simp; omega)) rfl (by decide) ?_)
       | (refine o_pick0 rfl (by first | (simp only [Bool.not_eq_false', decide_eq_true_eq]; omega) | (with_reducible assumption) | (rw [decide_eq_false] <;> (first | omega | with_reducible rfl)) | (rw [decide_eq_true] <;> (first | omega | with_reducible rfl)) | (simp; done) | (simp; omega)) rfl (by decide) ?_))
       | (refine z_isbi ?_; first
       | refine o_len tabOk rfl rfl (by decide) ?_
       | refine o_min rfl rfl (by decide) ?_
       | refine o_max rfl rfl (by decide) ?_)
       | refine o_move rfl (by decide) ?_
       | refine o_assign rfl (by decide) ?_
       | refine o_nil rfl (by decide) ?_
       | refine o_extract rfl rfl (by decide) ?_
       | refine o_not rfl (by decide) ?_
       | refine o_field0 tabOk rfl rfl rfl rfl rfl (by decide) ?_
       | refine o_field tabOk rfl rfl rfl rfl rfl (by decide) ?_
       | refine o_conv tabOk rfl rfl rfl (by decide) ?_))
    · have hs1 : sm L M (k + 1) = false := by rw [hss, decide_eq_false he]; simp
      have hs2 := sm_false hs1 (max L.length M.length) (by omega)
      by_cases hv : gv L (k : Int) = gv M (k : Int)
      · have e1 : (!(decide (0 ≤ gt L (k : Int)) == decide (0 ≤ gt M (k : Int)))) = true := by
          have r1 := gt_rng hL (k : Int)
          have r2 := gt_rng hM (k : Int)
          by_cases a : 0 ≤ gt L (k : Int)
          · by_cases b : 0 ≤ gt M (k : Int)
            · rw [gv_yes a, gv_yes b] at hv; exact absurd hv he
            · rw [decide_eq_true a, decide_eq_false b]; rfl
          · by_cases b : 0 ≤ gt M (k : Int)
            · rw [decide_eq_false a, decide_eq_true b]; rfl
            · omega
        repeat' (first
         | ((refine z_isdst 2 ?_; refine o_boxa (vs := [.slice A L.length c]) rfl rfl (by decide) fun ga => ?_))
         | ((refine z_isdst 3 ?_; refine o_boxa (vs := [.slice B M.length e]) rfl rfl (by decide) fun gb => ?_))
         | ((refine z_isdst 23 ?_; refine o_callr rfl Try.func42 rfl rfl rfl (get_c L hL _ _ _ _ (by (repeat (first | exact hrd | apply Rds.cons)); done) (by omega)) (by decide) ?_))
         | ((refine z_isdst 29 ?_; refine o_callr rfl Try.func42 rfl rfl rfl (get_c M hM _ _ _ _ (by (repeat (first | exact hrd2 | apply Rds.cons)); done) (by omega)) (by decide) ?_))
         | (refine s_is ?_; first
         | (refine s_isret ?_; first
         | exact f_r1 rfl (res_t rfl) () trivial (by rw [hs2]) (fun w h => ((h.sel 2 [0, 1] (by decide)).mask [false, false])))
         | (refine s_isw ?_; first
         | refine c_seq ?_
         | refine c_block ?_
         | refine c_region ?_
         | refine c_mixed mixed (by kernel_rfl) ?_
         | refine c_skip ?_
         | refine c_ret ?_
         | refine c_exit ?_
         | (refine s_iscond ?_; first
         | (refine c_true rfl (by first | with_reducible rfl | with_reducible assumption | ((with_reducible refine decide_eq_true ?_); first | with_reducible rfl | with_reducible assumption | omega)) ?_)
         | (refine c_false rfl (by first | with_reducible rfl | with_reducible assumption | ((with_reducible refine decide_eq_false ?_); first | with_reducible assumption | omega)) ?_)
         | (refine c_true rfl (by first | (simp only [Bool.not_eq_true', decide_eq_false_iff_not]; omega) | (with_reducible assumption) | (rw [decide_eq_false] <;> (first | omega | with_reducible rfl)) | (rw [decide_eq_true] <;> (first | omega | with_reducible rfl)) | (simp; done) | (simp; omega)) ?_)
         | (refine c_false rfl (by first | (simp only [Bool.not_eq_false', decide_eq_true_eq]; omega) | (with_reducible assumption) | (rw [decide_eq_false] <;> (first | omega | with_reducible rfl)) | (rw [decide_eq_true] <;> (first | omega | with_reducible rfl)) | (simp; done) | (simp; omega)) ?_)
         | refine c_cond rfl (fun hc => ?_) (fun hc => ?_)
         | refine c_condb rfl (fun hc => ?_) (fun hc => ?_)))
         | refine x_then ?_
         | refine x_then_ret ?_
         | refine x_then_exit ?_
         | refine x_block _ ?_
         | refine x_block_ret _ ?_
         | refine x_block_exit _ ?_
         | refine x_block_past (by decide) ?_
         | refine z_tailm ?_)
         | (refine z_isg0 ?_; first
         | refine z_skipu (by decide) rfl rfl ?_
         | (refine z_want0 rfl rfl (by first | with_reducible rfl | with_reducible assumption | ((with_reducible refine decide_eq_false ?_); first | with_reducible assumption | omega)) ?_)
         | (refine z_skip0 (by decide) rfl rfl (by first | with_reducible rfl | with_reducible assumption | ((with_reducible refine decide_eq_true ?_); first | with_reducible rfl | with_reducible assumption | omega)) ?_)
         | (refine z_want0 rfl rfl (by first | (simp only [Bool.not_eq_false', decide_eq_true_eq]; omega) | (with_reducible assumption) | (rw [decide_eq_false] <;> (first | omega | with_reducible rfl)) | (rw [decide_eq_true] <;> (first | omega | with_reducible rfl)) | (simp; done) | (simp; omega)) ?_)
         | (refine z_skip0 (by decide) rfl rfl (by first | (simp only [Bool.not_eq_true', decide_eq_false_iff_not]; omega) | (with_reducible assumption) | (rw [decide_eq_false] <;> (first | omega | with_reducible rfl)) | (rw [decide_eq_true] <;> (first | omega | with_reducible rfl)) | (simp; done) | (simp; omega)) ?_)
         | refine z_guard0 (by decide) rfl rfl (fun hc => ?_) (fun hc => ?_)
         | refine z_guardb (by decide) rfl rfl (fun hc => ?_) (fun hc => ?_))
         | (refine z_isnil ?_; first
         | refine z_list ?_
         | refine z_mixed ?_
         | refine z_mono0 ?_
         | refine z_mono1 (by decide) fun g => ?_
         | refine z_mono2 (by decide) (by decide) fun g g' => ?_
         | refine z_mixedx ?_
         | refine z_quiet ?_)
         | (refine z_isop ?_; first
         | (refine z_isbin ?_; first
         | (refine z_isb .add ?_; first
         | refine o_add rfl rfl (by omega) (by omega) (by decide) ?_
         | refine o_addw rfl rfl (by decide) ?_)
         | (refine z_isb .neq ?_; first
         | refine o_ne rfl rfl (by decide) ?_
         | refine o_bne tabOk rfl rfl rfl (by decide) ?_
         | refine o_pne tabOk rfl rfl (by decide) ?_)
         | (refine z_isb .lss ?_; first
         | refine o_lt rfl rfl (by decide) ?_))
         | (refine z_isload ?_; first
         | (refine z_ld1 tabOk rfl rfl ?_; first
         | refine o_loadm tabOk rfl rfl rfl (by repeat' (first | exact List.mem_cons_self | apply List.mem_cons_of_mem)) (by first | exact il_at _ (by omega) | rfl | rfl) (by decide) ?_
         | refine o_loads tabOk (by first | exact hrd | exact Rds.cons _ hrd | exact Rds.cons _ (Rds.cons _ hrd) | exact Rds.cons _ (Rds.cons _ (Rds.cons _ hrd)) | exact own_rds 0 rfl | exact own_rds 1 rfl | exact own_rds 2 rfl | assumption) rfl rfl rfl (by first | exact il_at _ (by omega) | rfl | rfl) (by decide) ?_)
         | (refine z_ldw tabOk rfl rfl ?_; first
         | (refine o_loadwm tabOk rfl rfl rfl (by repeat' (first | exact List.mem_cons_self | apply List.mem_cons_of_mem)) (by first | rfl | exact il_len _ | (simp only [il_len]; done) | rfl) (by decide) ?_)))
         | (refine z_ispick ?_; first
         | (refine o_pick1 rfl (by first | with_reducible rfl | with_reducible assumption | ((with_reducible refine decide_eq_true ?_); first | with_reducible rfl | with_reducible assumption | omega)) rfl (by decide) ?_)
         | (refine o_pick0 rfl (by first | with_reducible rfl | with_reducible assumption | ((with_reducible refine decide_eq_false ?_); first | with_reducible assumption | omega)) rfl (by decide) ?_)
         | (refine o_pick1 rfl (by first | (simp only [Bool.not_eq_true', decide_eq_false_iff_not]; omega) | (with_reducible assumption) | (rw [decide_eq_false] <;> (first | omega | with_reducible rfl)) | (rw [decide_eq_true] <;> (first | omega | with_reducible rfl)) | (simp; done) | (simp; omega)) rfl (by decide) ?_)
         | (refine o_pick0 rfl (by first | (simp only [Bool.not_eq_false', decide_eq_true_eq]; omega) | (with_reducible assumption) | (rw [decide_eq_false] <;> (first | omega | with_reducible rfl)) | (rw [decide_eq_true] <;> (first | omega | with_reducible rfl)) | (simp; done) | (simp; omega)) rfl (by decide) ?_))
         | (refine z_isbi ?_; first
         | refine o_len tabOk rfl rfl (by decide) ?_
         | refine o_min rfl rfl (by decide) ?_
         | refine o_max rfl rfl (by decide) ?_)
         | refine o_move rfl (by decide) ?_
         | refine o_assign rfl (by decide) ?_
         | refine o_nil rfl (by decide) ?_
         | refine o_extract rfl rfl (by decide) ?_
         | refine o_not rfl (by decide) ?_
         | refine o_field0 tabOk rfl rfl rfl rfl rfl (by decide) ?_
         | refine o_field tabOk rfl rfl rfl rfl rfl (by decide) ?_
         | refine o_conv tabOk rfl rfl rfl (by decide) ?_))
      · skip
        repeat' (first
         | ((refine z_isdst 2 ?_; refine o_boxa (vs := [.slice A L.length c]) rfl rfl (by decide) fun ga => ?_))
         | ((refine z_isdst 3 ?_; refine o_boxa (vs := [.slice B M.length e]) rfl rfl (by decide) fun gb => ?_))
         | ((refine z_isdst 23 ?_; refine o_callr rfl Try.func42 rfl rfl rfl (get_c L hL _ _ _ _ (by (repeat (first | exact hrd | apply Rds.cons)); done) (by omega)) (by decide) ?_))
         | ((refine z_isdst 29 ?_; refine o_callr rfl Try.func42 rfl rfl rfl (get_c M hM _ _ _ _ (by (repeat (first | exact hrd2 | apply Rds.cons)); done) (by omega)) (by decide) ?_))
         | (refine s_is ?_; first
         | (refine s_isret ?_; first
         | exact f_r1 rfl (res_t rfl) () trivial (by rw [hs2]) (fun w h => ((h.sel 2 [0, 1] (by decide)).mask [false, false])))
         | (refine s_isw ?_; first
         | refine c_seq ?_
         | refine c_block ?_
         | refine c_region ?_
         | refine c_mixed mixed (by kernel_rfl) ?_
         | refine c_skip ?_
         | refine c_ret ?_
         | refine c_exit ?_
         | (refine s_iscond ?_; first
         | (refine c_true rfl (by first | with_reducible rfl | with_reducible assumption | ((with_reducible refine decide_eq_true ?_); first | with_reducible rfl | with_reducible assumption | omega)) ?_)
         | (refine c_false rfl (by first | with_reducible rfl | with_reducible assumption | ((with_reducible refine decide_eq_false ?_); first | with_reducible assumption | omega)) ?_)
         | (refine c_true rfl (by first | (simp only [Bool.not_eq_true', decide_eq_false_iff_not]; omega) | (with_reducible assumption) | (rw [decide_eq_false] <;> (first | omega | with_reducible rfl)) | (rw [decide_eq_true] <;> (first | omega | with_reducible rfl)) | (simp; done) | (simp; omega)) ?_)
         | (refine c_false rfl (by first | (simp only [Bool.not_eq_false', decide_eq_true_eq]; omega) | (with_reducible assumption) | (rw [decide_eq_false] <;> (first | omega | with_reducible rfl)) | (rw [decide_eq_true] <;> (first | omega | with_reducible rfl)) | (simp; done) | (simp; omega)) ?_)
         | refine c_cond rfl (fun hc => ?_) (fun hc => ?_)
         | refine c_condb rfl (fun hc => ?_) (fun hc => ?_)))
         | refine x_then ?_
         | refine x_then_ret ?_
         | refine x_then_exit ?_
         | refine x_block _ ?_
         | refine x_block_ret _ ?_
         | refine x_block_exit _ ?_
         | refine x_block_past (by decide) ?_
         | refine z_tailm ?_)
         | (refine z_isg0 ?_; first
         | refine z_skipu (by decide) rfl rfl ?_
         | (refine z_want0 rfl rfl (by first | with_reducible rfl | with_reducible assumption | ((with_reducible refine decide_eq_false ?_); first | with_reducible assumption | omega)) ?_)
         | (refine z_skip0 (by decide) rfl rfl (by first | with_reducible rfl | with_reducible assumption | ((with_reducible refine decide_eq_true ?_); first | with_reducible rfl | with_reducible assumption | omega)) ?_)
         | (refine z_want0 rfl rfl (by first | (simp only [Bool.not_eq_false', decide_eq_true_eq]; omega) | (with_reducible assumption) | (rw [decide_eq_false] <;> (first | omega | with_reducible rfl)) | (rw [decide_eq_true] <;> (first | omega | with_reducible rfl)) | (simp; done) | (simp; omega)) ?_)
         | (refine z_skip0 (by decide) rfl rfl (by first | (simp only [Bool.not_eq_true', decide_eq_false_iff_not]; omega) | (with_reducible assumption) | (rw [decide_eq_false] <;> (first | omega | with_reducible rfl)) | (rw [decide_eq_true] <;> (first | omega | with_reducible rfl)) | (simp; done) | (simp; omega)) ?_)
         | refine z_guard0 (by decide) rfl rfl (fun hc => ?_) (fun hc => ?_)
         | refine z_guardb (by decide) rfl rfl (fun hc => ?_) (fun hc => ?_))
         | (refine z_isnil ?_; first
         | refine z_list ?_
         | refine z_mixed ?_
         | refine z_mono0 ?_
         | refine z_mono1 (by decide) fun g => ?_
         | refine z_mono2 (by decide) (by decide) fun g g' => ?_
         | refine z_mixedx ?_
         | refine z_quiet ?_)
         | (refine z_isop ?_; first
         | (refine z_isbin ?_; first
         | (refine z_isb .add ?_; first
         | refine o_add rfl rfl (by omega) (by omega) (by decide) ?_
         | refine o_addw rfl rfl (by decide) ?_)
         | (refine z_isb .neq ?_; first
         | refine o_ne rfl rfl (by decide) ?_
         | refine o_bne tabOk rfl rfl rfl (by decide) ?_
         | refine o_pne tabOk rfl rfl (by decide) ?_)
         | (refine z_isb .lss ?_; first
         | refine o_lt rfl rfl (by decide) ?_))
         | (refine z_isload ?_; first
         | (refine z_ld1 tabOk rfl rfl ?_; first
         | refine o_loadm tabOk rfl rfl rfl (by repeat' (first | exact List.mem_cons_self | apply List.mem_cons_of_mem)) (by first | exact il_at _ (by omega) | rfl | rfl) (by decide) ?_
         | refine o_loads tabOk (by first | exact hrd | exact Rds.cons _ hrd | exact Rds.cons _ (Rds.cons _ hrd) | exact Rds.cons _ (Rds.cons _ (Rds.cons _ hrd)) | exact own_rds 0 rfl | exact own_rds 1 rfl | exact own_rds 2 rfl | assumption) rfl rfl rfl (by first | exact il_at _ (by omega) | rfl | rfl) (by decide) ?_)
         | (refine z_ldw tabOk rfl rfl ?_; first
         | (refine o_loadwm tabOk rfl rfl rfl (by repeat' (first | exact List.mem_cons_self | apply List.mem_cons_of_mem)) (by first | rfl | exact il_len _ | (simp only [il_len]; done) | rfl) (by decide) ?_)))
         | (refine z_ispick ?_; first
         | (refine o_pick1 rfl (by first | with_reducible rfl | with_reducible assumption | ((with_reducible refine decide_eq_true ?_); first | with_reducible rfl | with_reducible assumption | omega)) rfl (by decide) ?_)
         | (refine o_pick0 rfl (by first | with_reducible rfl | with_reducible assumption | ((with_reducible refine decide_eq_false ?_); first | with_reducible assumption | omega)) rfl (by decide) ?_)
         | (refine o_pick1 rfl (by first | (simp only [Bool.not_eq_true', decide_eq_false_iff_not]; omega) | (with_reducible assumption) | (rw [decide_eq_false] <;> (first | omega | with_reducible rfl)) | (rw [decide_eq_true] <;> (first | omega | with_reducible rfl)) | (simp; done) | (simp; omega)) rfl (by decide) ?_)
         | (refine o_pick0 rfl (by first | (simp only [Bool.not_eq_false', decide_eq_true_eq]; omega) | (with_reducible assumption) | (rw [decide_eq_false] <;> (first | omega | with_reducible rfl)) | (rw [decide_eq_true] <;> (first | omega | with_reducible rfl)) | (simp; done) | (simp; omega)) rfl (by decide) ?_))
         | (refine z_isbi ?_; first
         | refine o_len tabOk rfl rfl (by decide) ?_
         | refine o_min rfl rfl (by decide) ?_
         | refine o_max rfl rfl (by decide) ?_)
         | refine o_move rfl (by decide) ?_
         | refine o_assign rfl (by decide) ?_
         | refine o_nil rfl (by decide) ?_
         | refine o_extract rfl rfl (by decide) ?_
         | refine o_not rfl (by decide) ?_
         | refine o_field0 tabOk rfl rfl rfl rfl rfl (by decide) ?_
         | refine o_field tabOk rfl rfl rfl rfl rfl (by decide) ?_
         | refine o_conv tabOk rfl rfl rfl (by decide) ?_))
  · obtain rfl : k = max L.length M.length := by omega
    repeat' (first
     | ((refine z_isdst 2 ?_; refine o_boxa (vs := [.slice A L.length c]) rfl rfl (by decide) fun ga => ?_))
     | ((refine z_isdst 3 ?_; refine o_boxa (vs := [.slice B M.length e]) rfl rfl (by decide) fun gb => ?_))
     | ((refine z_isdst 23 ?_; refine o_callr rfl Try.func42 rfl rfl rfl (get_c L hL _ _ _ _ (by (repeat (first | exact hrd | apply Rds.cons)); done) (by omega)) (by decide) ?_))
     | ((refine z_isdst 29 ?_; refine o_callr rfl Try.func42 rfl rfl rfl (get_c M hM _ _ _ _ (by (repeat (first | exact hrd2 | apply Rds.cons)); done) (by omega)) (by decide) ?_))
     | (refine s_is ?_; first
     | (refine s_isret ?_; first
     | exact f_r1 rfl (res_t rfl) () trivial (by rw [hs]) (fun w h => ((h.sel 2 [0, 1] (by decide)).mask [false, false])))
     | (refine s_isw ?_; first
     | refine c_seq ?_
     | refine c_block ?_
     | refine c_region ?_
     | refine c_mixed mixed (by kernel_rfl) ?_
     | refine c_skip ?_
     | refine c_ret ?_
     | refine c_exit ?_
     | (refine s_iscond ?_; first
     | (refine c_true rfl (by first | with_reducible rfl | with_reducible assumption | ((with_reducible refine decide_eq_true ?_); first | with_reducible rfl | with_reducible assumption | omega)) ?_)
     | (refine c_false rfl (by first | with_reducible rfl | with_reducible assumption | ((with_reducible refine decide_eq_false ?_); first | with_reducible assumption | omega)) ?_)
     | (refine c_true rfl (by first | (simp only [Bool.not_eq_true', decide_eq_false_iff_not]; omega) | (with_reducible assumption) | (rw [decide_eq_false] <;> (first | omega | with_reducible rfl)) | (rw [decide_eq_true] <;> (first | omega | with_reducible rfl)) | (simp; done) | (simp; omega)) ?_)
     | (refine c_false rfl (by first | (simp only [Bool.not_eq_false', decide_eq_true_eq]; omega) | (with_reducible assumption) | (rw [decide_eq_false] <;> (first | omega | with_reducible rfl)) | (rw [decide_eq_true] <;> (first | omega | with_reducible rfl)) | (simp; done) | (simp; omega)) ?_)
     | refine c_cond rfl (fun hc => ?_) (fun hc => ?_)
     | refine c_condb rfl (fun hc => ?_) (fun hc => ?_)))
     | refine x_then ?_
     | refine x_then_ret ?_
     | refine x_then_exit ?_
     | refine x_block _ ?_
     | refine x_block_ret _ ?_
     | refine x_block_exit _ ?_
     | refine x_block_past (by decide) ?_
     | refine z_tailm ?_)
     | (refine z_isg0 ?_; first
     | refine z_skipu (by decide) rfl rfl ?_
     | (refine z_want0 rfl rfl (by first | with_reducible rfl | with_reducible assumption | ((with_reducible refine decide_eq_false ?_); first | with_reducible assumption | omega)) ?_)
     | (refine z_skip0 (by decide) rfl rfl (by first | with_reducible rfl | with_reducible assumption | ((with_reducible refine decide_eq_true ?_); first | with_reducible rfl | with_reducible assumption | omega)) ?_)
     | (refine z_want0 rfl rfl (by first | (simp only [Bool.not_eq_false', decide_eq_true_eq]; omega) | (with_reducible assumption) | (rw [decide_eq_false] <;> (first | omega | with_reducible rfl)) | (rw [decide_eq_true] <;> (first | omega | with_reducible rfl)) | (simp; done) | (simp; omega)) ?_)
     | (refine z_skip0 (by decide) rfl rfl (by first | (simp only [Bool.not_eq_true', decide_eq_false_iff_not]; omega) | (with_reducible assumption) | (rw [decide_eq_false] <;> (first | omega | with_reducible rfl)) | (rw [decide_eq_true] <;> (first | omega | with_reducible rfl)) | (simp; done) | (simp; omega)) ?_)
     | refine z_guard0 (by decide) rfl rfl (fun hc => ?_) (fun hc => ?_)
     | refine z_guardb (by decide) rfl rfl (fun hc => ?_) (fun hc => ?_))
     | (refine z_isnil ?_; first
     | refine z_list ?_
     | refine z_mixed ?_
     | refine z_mono0 ?_
     | refine z_mono1 (by decide) fun g => ?_
     | refine z_mono2 (by decide) (by decide) fun g g' => ?_
     | refine z_mixedx ?_
     | refine z_quiet ?_)
     | (refine z_isop ?_; first
     | (refine z_isbin ?_; first
     | (refine z_isb .add ?_; first
     | refine o_add rfl rfl (by omega) (by omega) (by decide) ?_
     | refine o_addw rfl rfl (by decide) ?_)
     | (refine z_isb .neq ?_; first
     | refine o_ne rfl rfl (by decide) ?_
     | refine o_bne tabOk rfl rfl rfl (by decide) ?_
     | refine o_pne tabOk rfl rfl (by decide) ?_)
     | (refine z_isb .lss ?_; first
     | refine o_lt rfl rfl (by decide) ?_))
     | (refine z_isload ?_; first
     | (refine z_ld1 tabOk rfl rfl ?_; first
     | refine o_loadm tabOk rfl rfl rfl (by repeat' (first | exact List.mem_cons_self | apply List.mem_cons_of_mem)) (by first | exact il_at _ (by omega) | rfl | rfl) (by decide) ?_
     | refine o_loads tabOk (by first | exact hrd | exact Rds.cons _ hrd | exact Rds.cons _ (Rds.cons _ hrd) | exact Rds.cons _ (Rds.cons _ (Rds.cons _ hrd)) | exact own_rds 0 rfl | exact own_rds 1 rfl | exact own_rds 2 rfl | assumption) rfl rfl rfl (by first | exact il_at _ (by omega) | rfl | rfl) (by decide) ?_)
     | (refine z_ldw tabOk rfl rfl ?_; first
     | (refine o_loadwm tabOk rfl rfl rfl (by repeat' (first | exact List.mem_cons_self | apply List.mem_cons_of_mem)) (by first | rfl | exact il_len _ | (simp only [il_len]; done) | rfl) (by decide) ?_)))
     | (refine z_ispick ?_; first
     | (refine o_pick1 rfl (by first | with_reducible rfl | with_reducible assumption | ((with_reducible refine decide_eq_true ?_); first | with_reducible rfl | with_reducible assumption | omega)) rfl (by decide) ?_)
     | (refine o_pick0 rfl (by first | with_reducible rfl | with_reducible assumption | ((with_reducible refine decide_eq_false ?_); first | with_reducible assumption | omega)) rfl (by decide) ?_)
     | (refine o_pick1 rfl (by first | (simp only [Bool.not_eq_true', decide_eq_false_iff_not]; omega) | (with_reducible assumption) | (rw [decide_eq_false] <;> (first | omega | with_reducible rfl)) | (rw [decide_eq_true] <;> (first | omega | with_reducible rfl)) | (simp; done) | (simp; omega)) rfl (by decide) ?_)
     | (refine o_pick0 rfl (by first | (simp only [Bool.not_eq_false', decide_eq_true_eq]; omega) | (with_reducible assumption) | (rw [decide_eq_false] <;> (first | omega | with_reducible rfl)) | (rw [decide_eq_true] <;> (first | omega | with_reducible rfl)) | (simp; done) | (simp; omega)) rfl (by decide) ?_))
     | (refine z_isbi ?_; first
     | refine o_len tabOk rfl rfl (by decide) ?_
     | refine o_min rfl rfl (by decide) ?_
     | refine o_max rfl rfl (by decide) ?_)
     | refine o_move rfl (by decide) ?_
     | refine o_assign rfl (by decide) ?_
     | refine o_nil rfl (by decide) ?_
     | refine o_extract rfl rfl (by decide) ?_
     | refine o_not rfl (by decide) ?_
     | refine o_field0 tabOk rfl rfl rfl rfl rfl (by decide) ?_
     | refine o_field tabOk rfl rfl rfl rfl rfl (by decide) ?_
     | refine o_conv tabOk rfl rfl rfl (by decide) ?_))
theorem il_tk {L : List Int} {k : Nat} (h : k < L.length) : il (L.take (k + 1)) = il (L.take k) ++ [.int .i64 (L.getD k 0)] := by
  rw [List.take_add_one, show L[k]? = some (L.getD k 0) by simp [h], Option.toList_some, il_add]
theorem through_c (L M : List Int) (hL : Nm L) (hM : Nm M) (A B : Option Addr) (c e : Nat) (fr : List Chunk) (hrd : Rds fr A (il L)) (hrd2 : Rds fr B (il M)) (hx : L.length ≤ 1000000) (hx2 : M.length ≤ 1000000) :
    Does Try.prog 37 [.agg #[.slice A L.length c], .agg #[.slice B M.length e]] fr (fun _ : Option Addr × Nat => True) (fun x => .agg #[.slice x.1 (thr L M).length x.2]) (fun x => own x.1 x.2 3 1 (thr L M).length (il (thr L M)) :: fr) := by
  intro w hw
  have hne := il_ne hrd hw
  have htl := thr_len L M
  refine f_enter Try.func37 rfl Try.ntmps37 rfl hw ?_
  repeat' (first
   | ((refine z_isdst 2 ?_; refine o_boxa (vs := [.slice A L.length c]) rfl rfl (by decide) fun ga => ?_))
   | ((refine z_isdst 3 ?_; refine o_boxa (vs := [.slice B M.length e]) rfl rfl (by decide) fun gb => ?_))
   | ((refine z_isdst 4 ?_; refine o_alloca (e := 27) (vs := [.slice none 0 0]) rfl (by kernel_rfl) (by decide) fun g4 => ?_))
   | ((refine z_isdst 5 ?_; refine o_alloca (e := 27) (vs := [.slice none 0 0]) rfl (by kernel_rfl) (by decide) fun g5 => ?_))
   | ((refine z_isdst 16 ?_; refine o_loads tabOk (by (repeat (first | exact hrd | apply Rds.cons)); done) rfl rfl rfl (by first | exact (by rw [il_at _ (by omega), hvv]) | exact il_at _ (by omega) | rfl | rfl) (by decide) ?_))
   | ((refine z_isdst 20 ?_; refine o_callr rfl Try.func42 rfl rfl rfl (get_c M hM _ _ _ _ (by (repeat (first | exact hrd2 | apply Rds.cons)); done) (by omega)) (by decide) ?_))
   | (refine s_is ?_; first
   | (refine s_isw ?_; first
   | (refine s_isloop ?_; first
   | ((refine c_loop (X := Option Addr × Nat × Nat) (fun y => y.2.2 ≤ L.length) (fun y => [(3, .pointer (some ⟨gb, 0, none⟩)), (4, .pointer (some ⟨g4, 0, none⟩)), (5, .pointer (some ⟨g5, 0, none⟩)), (11, .slice A L.length c), (12, .int .i64 L.length), (13, .int .i64 y.2.2)]) (fun y => cells g5 27 [.slice y.1 y.2.2 y.2.1] :: own y.1 y.2.1 3 1 y.2.2 (il ((thr L M).take y.2.2)) :: cells g4 27 [.slice none 0 0] :: cells gb 27 [.slice B M.length e] :: fr) (fun y => L.length - y.2.2) (none, 0, 0) (Nat.zero_le _) ⟨rfl, rfl, rfl, rfl, rfl, rfl, trivial⟩ (fun w h => by dsimp only; rw [List.take_zero, il_nil]; exact (((((h.sel 4 [0, 1, 2, 3] (by decide)).mask [true, true, true, false])).nil 3 1).sel 4 [1, 0, 2, 3] (by decide))) (fun y hk => ?_); obtain ⟨D, d, k⟩ := y; dsimp only at hk ⊢; refine hold ?_)))
   | refine c_seq ?_
   | refine c_block ?_
   | refine c_region ?_
   | refine c_mixed mixed (by kernel_rfl) ?_
   | refine c_skip ?_
   | refine c_ret ?_
   | refine c_exit ?_
   | (refine s_iscond ?_; first
   | (refine c_true rfl (by first | with_reducible rfl | with_reducible assumption | ((with_reducible refine decide_eq_true ?_); first | with_reducible rfl | with_reducible assumption | omega)) ?_)
   | (refine c_false rfl (by first | with_reducible rfl | with_reducible assumption | ((with_reducible refine decide_eq_false ?_); first | with_reducible assumption | omega)) ?_)
   | (refine c_true rfl (by first | (simp only [Bool.not_eq_true', decide_eq_false_iff_not]; omega) | (with_reducible assumption) | (rw [decide_eq_false] <;> (first | omega | with_reducible rfl)) | (rw [decide_eq_true] <;> (first | omega | with_reducible rfl)) | (simp; done) | (simp; omega)) ?_)
   | (refine c_false rfl (by first | (simp only [Bool.not_eq_false', decide_eq_true_eq]; omega) | (with_reducible assumption) | (rw [decide_eq_false] <;> (first | omega | with_reducible rfl)) | (rw [decide_eq_true] <;> (first | omega | with_reducible rfl)) | (simp; done) | (simp; omega)) ?_)
   | refine c_cond rfl (fun hc => ?_) (fun hc => ?_)
   | refine c_condb rfl (fun hc => ?_) (fun hc => ?_)))
   | refine x_then ?_
   | refine x_then_ret ?_
   | refine x_then_exit ?_
   | refine x_block _ ?_
   | refine x_block_ret _ ?_
   | refine x_block_exit _ ?_
   | refine x_block_past (by decide) ?_
   | refine z_tailm ?_)
   | (refine z_isg0 ?_; first
   | refine z_skipu (by decide) rfl rfl ?_
   | (refine z_want0 rfl rfl (by first | with_reducible rfl | with_reducible assumption | ((with_reducible refine decide_eq_false ?_); first | with_reducible assumption | omega)) ?_)
   | (refine z_skip0 (by decide) rfl rfl (by first | with_reducible rfl | with_reducible assumption | ((with_reducible refine decide_eq_true ?_); first | with_reducible rfl | with_reducible assumption | omega)) ?_)
   | (refine z_want0 rfl rfl (by first | (simp only [Bool.not_eq_false', decide_eq_true_eq]; omega) | (with_reducible assumption) | (rw [decide_eq_false] <;> (first | omega | with_reducible rfl)) | (rw [decide_eq_true] <;> (first | omega | with_reducible rfl)) | (simp; done) | (simp; omega)) ?_)
   | (refine z_skip0 (by decide) rfl rfl (by first | (simp only [Bool.not_eq_true', decide_eq_false_iff_not]; omega) | (with_reducible assumption) | (rw [decide_eq_false] <;> (first | omega | with_reducible rfl)) | (rw [decide_eq_true] <;> (first | omega | with_reducible rfl)) | (simp; done) | (simp; omega)) ?_)
   | refine z_guard0 (by decide) rfl rfl (fun hc => ?_) (fun hc => ?_)
   | refine z_guardb (by decide) rfl rfl (fun hc => ?_) (fun hc => ?_))
   | (refine z_isnil ?_; first
   | refine z_list ?_
   | refine z_mixed ?_
   | refine z_mono0 ?_
   | refine z_mono1 (by decide) fun g => ?_
   | refine z_mono2 (by decide) (by decide) fun g g' => ?_
   | refine z_mixedx ?_
   | refine z_quiet ?_)
   | (refine z_isop ?_; first
   | (refine z_isbin ?_; first
   | (refine z_isb .add ?_; first
   | refine o_add rfl rfl (by omega) (by omega) (by decide) ?_
   | refine o_addw rfl rfl (by decide) ?_)
   | (refine z_isb .eql ?_; first
   | refine o_eq rfl rfl (by decide) ?_
   | refine o_beq tabOk rfl rfl rfl (by decide) ?_
   | refine o_peq tabOk rfl rfl (by decide) ?_)
   | (refine z_isb .lss ?_; first
   | refine o_lt rfl rfl (by decide) ?_))
   | (refine z_isload ?_; first
   | (refine z_ld1 tabOk rfl rfl ?_; first
   | refine o_loadm tabOk rfl rfl rfl (by repeat' (first | exact List.mem_cons_self | apply List.mem_cons_of_mem)) (by first | exact (by rw [il_at _ (by omega), hvv]) | exact il_at _ (by omega) | rfl | rfl) (by decide) ?_
   | refine o_loads tabOk (by first | exact own_rds 0 rfl | exact own_rds 1 rfl | exact own_rds 2 rfl | exact own_rds 3 rfl | assumption) rfl rfl rfl (by first | exact (by rw [il_at _ (by omega), hvv]) | exact il_at _ (by omega) | rfl | rfl) (by decide) ?_)
   | (refine z_ldw tabOk rfl rfl ?_; first
   | (refine o_loadwm tabOk rfl rfl rfl (by repeat' (first | exact List.mem_cons_self | apply List.mem_cons_of_mem)) (by first | rfl | exact il_len _ | (simp only [il_len]; done) | rfl) (by decide) ?_)))
   | (refine z_isstore ?_; first
   | (refine z_stw rfl ?_; first
   | ((refine z_sti 0 rfl rfl ?_; refine o_storeb0 rfl tabOk rfl rfl rfl (by first | rfl | exact il_len _ | (simp only [il_len]; done) | rfl) (by first | rfl) (by first | rfl | exact il_len _ | (simp only [il_len]; done) | rfl) ?_))
   | ((refine z_sti 1 rfl rfl ?_; refine o_storeb1 rfl tabOk rfl rfl rfl (by first | rfl | exact il_len _ | (simp only [il_len]; done) | rfl) (by first | rfl) (by first | rfl | exact il_len _ | (simp only [il_len]; done) | rfl) ?_))
   | ((refine z_sti 2 rfl rfl ?_; refine o_storeb2 rfl tabOk rfl rfl rfl (by first | rfl | exact il_len _ | (simp only [il_len]; done) | rfl) (by first | rfl) (by first | rfl | exact il_len _ | (simp only [il_len]; done) | rfl) ?_))
   | ((refine z_sti 3 rfl rfl ?_; refine o_storeb3 rfl tabOk rfl rfl rfl (by first | rfl | exact il_len _ | (simp only [il_len]; done) | rfl) (by first | rfl) (by first | rfl | exact il_len _ | (simp only [il_len]; done) | rfl) ?_))
   | ((refine z_sti 4 rfl rfl ?_; refine o_storeb4 rfl tabOk rfl rfl rfl (by first | rfl | exact il_len _ | (simp only [il_len]; done) | rfl) (by first | rfl) (by first | rfl | exact il_len _ | (simp only [il_len]; done) | rfl) ?_))
   | ((refine z_sti 5 rfl rfl ?_; refine o_storeb5 rfl tabOk rfl rfl rfl (by first | rfl | exact il_len _ | (simp only [il_len]; done) | rfl) (by first | rfl) (by first | rfl | exact il_len _ | (simp only [il_len]; done) | rfl) ?_))
   | ((refine z_sti 6 rfl rfl ?_; refine o_storeb6 rfl tabOk rfl rfl rfl (by first | rfl | exact il_len _ | (simp only [il_len]; done) | rfl) (by first | rfl) (by first | rfl | exact il_len _ | (simp only [il_len]; done) | rfl) ?_)))
   | (refine z_st1 rfl rfl ?_; first
   | refine o_store rfl tabOk rfl rfl rfl rfl rfl (by first | exact (by rw [il_at _ (by omega), hvv]) | exact il_at _ (by omega) | rfl | rfl) (by first | rfl) ?_
   | ((refine z_sti 1 rfl rfl ?_; refine o_store1 rfl tabOk rfl rfl rfl rfl rfl (by first | exact (by rw [il_at _ (by omega), hvv]) | exact il_at _ (by omega) | rfl | rfl) (by first | rfl) ?_))
   | ((refine z_sti 2 rfl rfl ?_; refine o_store2 rfl tabOk rfl rfl rfl rfl rfl (by first | exact (by rw [il_at _ (by omega), hvv]) | exact il_at _ (by omega) | rfl | rfl) (by first | rfl) ?_))
   | ((refine z_sti 3 rfl rfl ?_; refine o_store3 rfl tabOk rfl rfl rfl rfl rfl (by first | exact (by rw [il_at _ (by omega), hvv]) | exact il_at _ (by omega) | rfl | rfl) (by first | rfl) ?_))
   | ((refine z_sti 4 rfl rfl ?_; refine o_store4 rfl tabOk rfl rfl rfl rfl rfl (by first | exact (by rw [il_at _ (by omega), hvv]) | exact il_at _ (by omega) | rfl | rfl) (by first | rfl) ?_))
   | ((refine z_sti 5 rfl rfl ?_; refine o_store5 rfl tabOk rfl rfl rfl rfl rfl (by first | exact (by rw [il_at _ (by omega), hvv]) | exact il_at _ (by omega) | rfl | rfl) (by first | rfl) ?_))
   | ((refine z_sti 6 rfl rfl ?_; refine o_store6 rfl tabOk rfl rfl rfl rfl rfl (by first | exact (by rw [il_at _ (by omega), hvv]) | exact il_at _ (by omega) | rfl | rfl) (by first | rfl) ?_))))
   | (refine z_ismakes ?_; first
   | refine o_make1 rfl tabOk zeroOk rfl rfl rfl rfl rfl (by decide) fun g => ?_)
   | (refine z_ispick ?_; first
   | (refine o_pick1 rfl (by first | with_reducible rfl | with_reducible assumption | ((with_reducible refine decide_eq_true ?_); first | with_reducible rfl | with_reducible assumption | omega)) rfl (by decide) ?_)
   | (refine o_pick0 rfl (by first | with_reducible rfl | with_reducible assumption | ((with_reducible refine decide_eq_false ?_); first | with_reducible assumption | omega)) rfl (by decide) ?_)
   | (refine o_pick1 rfl (by first | (simp only [Bool.not_eq_true', decide_eq_false_iff_not]; omega) | (with_reducible assumption) | (rw [decide_eq_false] <;> (first | omega | with_reducible rfl)) | (rw [decide_eq_true] <;> (first | omega | with_reducible rfl)) | (simp; done) | (simp; omega)) rfl (by decide) ?_)
   | (refine o_pick0 rfl (by first | (simp only [Bool.not_eq_false', decide_eq_true_eq]; omega) | (with_reducible assumption) | (rw [decide_eq_false] <;> (first | omega | with_reducible rfl)) | (rw [decide_eq_true] <;> (first | omega | with_reducible rfl)) | (simp; done) | (simp; omega)) rfl (by decide) ?_))
   | (refine z_isix ?_; first
   | refine o_index0 tabOk rfl rfl rfl rfl (by omega) (by omega) (by decide) ?_
   | refine o_index1 tabOk rfl rfl rfl rfl (by omega) (by omega) (by decide) ?_
   | refine o_indexsk1 tabOk rfl rfl rfl rfl (by omega) (by omega) (by decide) ?_
   | refine o_indexsk tabOk rfl rfl rfl rfl (by omega) (by omega) (by decide) ?_
   | refine o_indexs1 tabOk (by first | exact hne (by omega) | assumption) rfl rfl rfl rfl (by omega) (by omega) (by decide) ?_)
   | (refine z_isbi ?_; first
   | refine o_len tabOk rfl rfl (by decide) ?_
   | refine o_min rfl rfl (by decide) ?_
   | refine o_max rfl rfl (by decide) ?_
   | (refine o_append0 rfl tabOk zeroOk rfl rfl rfl rfl rfl rfl (by first | exact own_rds 0 rfl | exact own_rds 1 rfl | exact own_rds 2 rfl | exact own_rds 3 rfl | assumption) (by first | rfl | (simp; done)) (by first | rfl | (simp; done)) (by omega) (by omega) (by decide) fun A' c' => ?_)
   | (refine o_append rfl tabOk zeroOk rfl rfl rfl rfl rfl rfl (by first | exact own_rds 0 rfl | exact own_rds 1 rfl | exact own_rds 2 rfl | exact own_rds 3 rfl | assumption) (by first | rfl | (simp; done)) (by first | rfl | (simp; done)) (by omega) (by omega) (by decide) fun A' c' => ?_)
   | (refine z_front rfl 1 rfl ?_; refine o_append rfl tabOk zeroOk rfl rfl rfl rfl rfl rfl (by first | exact own_rds 0 rfl | exact own_rds 1 rfl | exact own_rds 2 rfl | exact own_rds 3 rfl | assumption) (by first | rfl | (simp; done)) (by first | rfl | (simp; done)) (by omega) (by omega) (by decide) fun A' c' => ?_)
   | (refine z_front rfl 2 rfl ?_; refine o_append rfl tabOk zeroOk rfl rfl rfl rfl rfl rfl (by first | exact own_rds 0 rfl | exact own_rds 1 rfl | exact own_rds 2 rfl | exact own_rds 3 rfl | assumption) (by first | rfl | (simp; done)) (by first | rfl | (simp; done)) (by omega) (by omega) (by decide) fun A' c' => ?_)
   | (refine z_front rfl 3 rfl ?_; refine o_append rfl tabOk zeroOk rfl rfl rfl rfl rfl rfl (by first | exact own_rds 0 rfl | exact own_rds 1 rfl | exact own_rds 2 rfl | exact own_rds 3 rfl | assumption) (by first | rfl | (simp; done)) (by first | rfl | (simp; done)) (by omega) (by omega) (by decide) fun A' c' => ?_)
   | (refine z_front rfl 4 rfl ?_; refine o_append rfl tabOk zeroOk rfl rfl rfl rfl rfl rfl (by first | exact own_rds 0 rfl | exact own_rds 1 rfl | exact own_rds 2 rfl | exact own_rds 3 rfl | assumption) (by first | rfl | (simp; done)) (by first | rfl | (simp; done)) (by omega) (by omega) (by decide) fun A' c' => ?_)
   | (refine z_front rfl 5 rfl ?_; refine o_append rfl tabOk zeroOk rfl rfl rfl rfl rfl rfl (by first | exact own_rds 0 rfl | exact own_rds 1 rfl | exact own_rds 2 rfl | exact own_rds 3 rfl | assumption) (by first | rfl | (simp; done)) (by first | rfl | (simp; done)) (by omega) (by omega) (by decide) fun A' c' => ?_))
   | refine o_move rfl (by decide) ?_
   | refine o_assign rfl (by decide) ?_
   | refine o_nil rfl (by decide) ?_
   | refine o_extract rfl rfl (by decide) ?_
   | refine o_not rfl (by decide) ?_
   | refine o_field0 tabOk rfl rfl rfl rfl rfl (by decide) ?_
   | refine o_field tabOk rfl rfl rfl rfl rfl (by decide) ?_
   | refine o_conv tabOk rfl rfl rfl (by decide) ?_))
  refine Hold.go ?_
  by_cases hl : k < L.length
  · have hta := thr_at (M := M) hl
    have htk := il_tk (L := thr L M) (k := k) (by rw [htl]; exact hl)
    rw [hta] at htk
    have hv := hL.v k hl
    have e3 : ((k : Int)).toNat = k := Int.toNat_natCast k
    rw [← e3] at htk hv
    generalize hvv : L.getD ((k : Int)).toNat 0 = v at *
    rw [e3] at htk
    by_cases hg : 0 ≤ gt M v
    · have hne1 : v ≠ -1 := fun e => by subst e; rw [gt_neg] at hg; omega
      have hgv := gv_yes hg
      rw [← hgv] at htk
      repeat' (first
       | ((refine z_isdst 2 ?_; refine o_boxa (vs := [.slice A L.length c]) rfl rfl (by decide) fun ga => ?_))
       | ((refine z_isdst 3 ?_; refine o_boxa (vs := [.slice B M.length e]) rfl rfl (by decide) fun gb => ?_))
       | ((refine z_isdst 4 ?_; refine o_alloca (e := 27) (vs := [.slice none 0 0]) rfl (by kernel_rfl) (by decide) fun g4 => ?_))
       | ((refine z_isdst 5 ?_; refine o_alloca (e := 27) (vs := [.slice none 0 0]) rfl (by kernel_rfl) (by decide) fun g5 => ?_))
       | ((refine z_isdst 16 ?_; refine o_loads tabOk (by (repeat (first | exact hrd | apply Rds.cons)); done) rfl rfl rfl (by first | exact (by rw [il_at _ (by omega), hvv]) | exact il_at _ (by omega) | rfl | rfl) (by decide) ?_))
       | ((refine z_isdst 20 ?_; refine o_callr rfl Try.func42 rfl rfl rfl (get_c M hM _ _ _ _ (by (repeat (first | exact hrd2 | apply Rds.cons)); done) (by omega)) (by decide) ?_))
       | (refine s_is ?_; first
       | (refine s_isagain ?_; first
       | (exact c_again (A', c', k + 1) (by dsimp only; omega) (by dsimp only; omega) ⟨rfl, rfl, rfl, rfl, rfl, rfl, trivial⟩ (fun w h => by dsimp only; rw [htk]; exact ((h.sel 5 [2, 0, 3, 4, 1] (by decide)).mask [true, true, true, true, false]))))
       | (refine s_isw ?_; first
       | refine c_seq ?_
       | refine c_block ?_
       | refine c_region ?_
       | refine c_mixed mixed (by kernel_rfl) ?_
       | refine c_skip ?_
       | refine c_ret ?_
       | refine c_exit ?_
       | (refine s_iscond ?_; first
       | (refine c_true rfl (by first | with_reducible rfl | with_reducible assumption | ((with_reducible refine decide_eq_true ?_); first | with_reducible rfl | with_reducible assumption | omega)) ?_)
       | (refine c_false rfl (by first | with_reducible rfl | with_reducible assumption | ((with_reducible refine decide_eq_false ?_); first | with_reducible assumption | omega)) ?_)
       | (refine c_true rfl (by first | (simp only [Bool.not_eq_true', decide_eq_false_iff_not]; omega) | (with_reducible assumption) | (rw [decide_eq_false] <;> (first | omega | with_reducible rfl)) | (rw [decide_eq_true] <;> (first | omega | with_reducible rfl)) | (simp; done) | (simp; omega)) ?_)
       | (refine c_false rfl (by first | (simp only [Bool.not_eq_false', decide_eq_true_eq]; omega) | (with_reducible assumption) | (rw [decide_eq_false] <;> (first | omega | with_reducible rfl)) | (rw [decide_eq_true] <;> (first | omega | with_reducible rfl)) | (simp; done) | (simp; omega)) ?_)
       | refine c_cond rfl (fun hc => ?_) (fun hc => ?_)
       | refine c_condb rfl (fun hc => ?_) (fun hc => ?_)))
       | refine x_then ?_
       | refine x_then_ret ?_
       | refine x_then_exit ?_
       | refine x_block _ ?_
       | refine x_block_ret _ ?_
       | refine x_block_exit _ ?_
       | refine x_block_past (by decide) ?_
       | refine z_tailm ?_)
       | (refine z_isg0 ?_; first
       | refine z_skipu (by decide) rfl rfl ?_
       | (refine z_want0 rfl rfl (by first | with_reducible rfl | with_reducible assumption | ((with_reducible refine decide_eq_false ?_); first | with_reducible assumption | omega)) ?_)
       | (refine z_skip0 (by decide) rfl rfl (by first | with_reducible rfl | with_reducible assumption | ((with_reducible refine decide_eq_true ?_); first | with_reducible rfl | with_reducible assumption | omega)) ?_)
       | (refine z_want0 rfl rfl (by first | (simp only [Bool.not_eq_false', decide_eq_true_eq]; omega) | (with_reducible assumption) | (rw [decide_eq_false] <;> (first | omega | with_reducible rfl)) | (rw [decide_eq_true] <;> (first | omega | with_reducible rfl)) | (simp; done) | (simp; omega)) ?_)
       | (refine z_skip0 (by decide) rfl rfl (by first | (simp only [Bool.not_eq_true', decide_eq_false_iff_not]; omega) | (with_reducible assumption) | (rw [decide_eq_false] <;> (first | omega | with_reducible rfl)) | (rw [decide_eq_true] <;> (first | omega | with_reducible rfl)) | (simp; done) | (simp; omega)) ?_)
       | refine z_guard0 (by decide) rfl rfl (fun hc => ?_) (fun hc => ?_)
       | refine z_guardb (by decide) rfl rfl (fun hc => ?_) (fun hc => ?_))
       | (refine z_isnil ?_; first
       | refine z_list ?_
       | refine z_mixed ?_
       | refine z_mono0 ?_
       | refine z_mono1 (by decide) fun g => ?_
       | refine z_mono2 (by decide) (by decide) fun g g' => ?_
       | refine z_mixedx ?_
       | refine z_quiet ?_)
       | (refine z_isop ?_; first
       | (refine z_isbin ?_; first
       | (refine z_isb .add ?_; first
       | refine o_add rfl rfl (by omega) (by omega) (by decide) ?_
       | refine o_addw rfl rfl (by decide) ?_)
       | (refine z_isb .eql ?_; first
       | refine o_eq rfl rfl (by decide) ?_
       | refine o_beq tabOk rfl rfl rfl (by decide) ?_
       | refine o_peq tabOk rfl rfl (by decide) ?_)
       | (refine z_isb .lss ?_; first
       | refine o_lt rfl rfl (by decide) ?_))
       | (refine z_isload ?_; first
       | (refine z_ld1 tabOk rfl rfl ?_; first
       | refine o_loadm tabOk rfl rfl rfl (by repeat' (first | exact List.mem_cons_self | apply List.mem_cons_of_mem)) (by first | exact (by rw [il_at _ (by omega), hvv]) | exact il_at _ (by omega) | rfl | rfl) (by decide) ?_
       | refine o_loads tabOk (by first | exact own_rds 0 rfl | exact own_rds 1 rfl | exact own_rds 2 rfl | exact own_rds 3 rfl | assumption) rfl rfl rfl (by first | exact (by rw [il_at _ (by omega), hvv]) | exact il_at _ (by omega) | rfl | rfl) (by decide) ?_)
       | (refine z_ldw tabOk rfl rfl ?_; first
       | (refine o_loadwm tabOk rfl rfl rfl (by repeat' (first | exact List.mem_cons_self | apply List.mem_cons_of_mem)) (by first | rfl | exact il_len _ | (simp only [il_len]; done) | rfl) (by decide) ?_)))
       | (refine z_isstore ?_; first
       | (refine z_stw rfl ?_; first
       | ((refine z_sti 0 rfl rfl ?_; refine o_storeb0 rfl tabOk rfl rfl rfl (by first | rfl | exact il_len _ | (simp only [il_len]; done) | rfl) (by first | rfl) (by first | rfl | exact il_len _ | (simp only [il_len]; done) | rfl) ?_))
       | ((refine z_sti 1 rfl rfl ?_; refine o_storeb1 rfl tabOk rfl rfl rfl (by first | rfl | exact il_len _ | (simp only [il_len]; done) | rfl) (by first | rfl) (by first | rfl | exact il_len _ | (simp only [il_len]; done) | rfl) ?_))
       | ((refine z_sti 2 rfl rfl ?_; refine o_storeb2 rfl tabOk rfl rfl rfl (by first | rfl | exact il_len _ | (simp only [il_len]; done) | rfl) (by first | rfl) (by first | rfl | exact il_len _ | (simp only [il_len]; done) | rfl) ?_))
       | ((refine z_sti 3 rfl rfl ?_; refine o_storeb3 rfl tabOk rfl rfl rfl (by first | rfl | exact il_len _ | (simp only [il_len]; done) | rfl) (by first | rfl) (by first | rfl | exact il_len _ | (simp only [il_len]; done) | rfl) ?_))
       | ((refine z_sti 4 rfl rfl ?_; refine o_storeb4 rfl tabOk rfl rfl rfl (by first | rfl | exact il_len _ | (simp only [il_len]; done) | rfl) (by first | rfl) (by first | rfl | exact il_len _ | (simp only [il_len]; done) | rfl) ?_))
       | ((refine z_sti 5 rfl rfl ?_; refine o_storeb5 rfl tabOk rfl rfl rfl (by first | rfl | exact il_len _ | (simp only [il_len]; done) | rfl) (by first | rfl) (by first | rfl | exact il_len _ | (simp only [il_len]; done) | rfl) ?_))
       | ((refine z_sti 6 rfl rfl ?_; refine o_storeb6 rfl tabOk rfl rfl rfl (by first | rfl | exact il_len _ | (simp only [il_len]; done) | rfl) (by first | rfl) (by first | rfl | exact il_len _ | (simp only [il_len]; done) | rfl) ?_)))
       | (refine z_st1 rfl rfl ?_; first
       | refine o_store rfl tabOk rfl rfl rfl rfl rfl (by first | exact (by rw [il_at _ (by omega), hvv]) | exact il_at _ (by omega) | rfl | rfl) (by first | rfl) ?_
       | ((refine z_sti 1 rfl rfl ?_; refine o_store1 rfl tabOk rfl rfl rfl rfl rfl (by first | exact (by rw [il_at _ (by omega), hvv]) | exact il_at _ (by omega) | rfl | rfl) (by first | rfl) ?_))
       | ((refine z_sti 2 rfl rfl ?_; refine o_store2 rfl tabOk rfl rfl rfl rfl rfl (by first | exact (by rw [il_at _ (by omega), hvv]) | exact il_at _ (by omega) | rfl | rfl) (by first | rfl) ?_))
       | ((refine z_sti 3 rfl rfl ?_; refine o_store3 rfl tabOk rfl rfl rfl rfl rfl (by first | exact (by rw [il_at _ (by omega), hvv]) | exact il_at _ (by omega) | rfl | rfl) (by first | rfl) ?_))
       | ((refine z_sti 4 rfl rfl ?_; refine o_store4 rfl tabOk rfl rfl rfl rfl rfl (by first | exact (by rw [il_at _ (by omega), hvv]) | exact il_at _ (by omega) | rfl | rfl) (by first | rfl) ?_))
       | ((refine z_sti 5 rfl rfl ?_; refine o_store5 rfl tabOk rfl rfl rfl rfl rfl (by first | exact (by rw [il_at _ (by omega), hvv]) | exact il_at _ (by omega) | rfl | rfl) (by first | rfl) ?_))
       | ((refine z_sti 6 rfl rfl ?_; refine o_store6 rfl tabOk rfl rfl rfl rfl rfl (by first | exact (by rw [il_at _ (by omega), hvv]) | exact il_at _ (by omega) | rfl | rfl) (by first | rfl) ?_))))
       | (refine z_ismakes ?_; first
       | refine o_make1 rfl tabOk zeroOk rfl rfl rfl rfl rfl (by decide) fun g => ?_)
       | (refine z_ispick ?_; first
       | (refine o_pick1 rfl (by first | with_reducible rfl | with_reducible assumption | ((with_reducible refine decide_eq_true ?_); first | with_reducible rfl | with_reducible assumption | omega)) rfl (by decide) ?_)
       | (refine o_pick0 rfl (by first | with_reducible rfl | with_reducible assumption | ((with_reducible refine decide_eq_false ?_); first | with_reducible assumption | omega)) rfl (by decide) ?_)
       | (refine o_pick1 rfl (by first | (simp only [Bool.not_eq_true', decide_eq_false_iff_not]; omega) | (with_reducible assumption) | (rw [decide_eq_false] <;> (first | omega | with_reducible rfl)) | (rw [decide_eq_true] <;> (first | omega | with_reducible rfl)) | (simp; done) | (simp; omega)) rfl (by decide) ?_)
       | (refine o_pick0 rfl (by first | (simp only [Bool.not_eq_false', decide_eq_true_eq]; omega) | (with_reducible assumption) | (rw [decide_eq_false] <;> (first | omega | with_reducible rfl)) | (rw [decide_eq_true] <;> (first | omega | with_reducible rfl)) | (simp; done) | (simp; omega)) rfl (by decide) ?_))
       | (refine z_isix ?_; first
       | refine o_index0 tabOk rfl rfl rfl rfl (by omega) (by omega) (by decide) ?_
       | refine o_index1 tabOk rfl rfl rfl rfl (by omega) (by omega) (by decide) ?_
       | refine o_indexsk1 tabOk rfl rfl rfl rfl (by omega) (by omega) (by decide) ?_
       | refine o_indexsk tabOk rfl rfl rfl rfl (by omega) (by omega) (by decide) ?_
       | refine o_indexs1 tabOk (by first | exact hne (by omega) | assumption) rfl rfl rfl rfl (by omega) (by omega) (by decide) ?_)
       | (refine z_isbi ?_; first
       | refine o_len tabOk rfl rfl (by decide) ?_
       | refine o_min rfl rfl (by decide) ?_
       | refine o_max rfl rfl (by decide) ?_
       | (refine o_append0 rfl tabOk zeroOk rfl rfl rfl rfl rfl rfl (by first | exact own_rds 0 rfl | exact own_rds 1 rfl | exact own_rds 2 rfl | exact own_rds 3 rfl | assumption) (by first | rfl | (simp; done)) (by first | rfl | (simp; done)) (by omega) (by omega) (by decide) fun A' c' => ?_)
       | (refine o_append rfl tabOk zeroOk rfl rfl rfl rfl rfl rfl (by first | exact own_rds 0 rfl | exact own_rds 1 rfl | exact own_rds 2 rfl | exact own_rds 3 rfl | assumption) (by first | rfl | (simp; done)) (by first | rfl | (simp; done)) (by omega) (by omega) (by decide) fun A' c' => ?_)
       | (refine z_front rfl 1 rfl ?_; refine o_append rfl tabOk zeroOk rfl rfl rfl rfl rfl rfl (by first | exact own_rds 0 rfl | exact own_rds 1 rfl | exact own_rds 2 rfl | exact own_rds 3 rfl | assumption) (by first | rfl | (simp; done)) (by first | rfl | (simp; done)) (by omega) (by omega) (by decide) fun A' c' => ?_)
       | (refine z_front rfl 2 rfl ?_; refine o_append rfl tabOk zeroOk rfl rfl rfl rfl rfl rfl (by first | exact own_rds 0 rfl | exact own_rds 1 rfl | exact own_rds 2 rfl | exact own_rds 3 rfl | assumption) (by first | rfl | (simp; done)) (by first | rfl | (simp; done)) (by omega) (by omega) (by decide) fun A' c' => ?_)
       | (refine z_front rfl 3 rfl ?_; refine o_append rfl tabOk zeroOk rfl rfl rfl rfl rfl rfl (by first | exact own_rds 0 rfl | exact own_rds 1 rfl | exact own_rds 2 rfl | exact own_rds 3 rfl | assumption) (by first | rfl | (simp; done)) (by first | rfl | (simp; done)) (by omega) (by omega) (by decide) fun A' c' => ?_)
       | (refine z_front rfl 4 rfl ?_; refine o_append rfl tabOk zeroOk rfl rfl rfl rfl rfl rfl (by first | exact own_rds 0 rfl | exact own_rds 1 rfl | exact own_rds 2 rfl | exact own_rds 3 rfl | assumption) (by first | rfl | (simp; done)) (by first | rfl | (simp; done)) (by omega) (by omega) (by decide) fun A' c' => ?_)
       | (refine z_front rfl 5 rfl ?_; refine o_append rfl tabOk zeroOk rfl rfl rfl rfl rfl rfl (by first | exact own_rds 0 rfl | exact own_rds 1 rfl | exact own_rds 2 rfl | exact own_rds 3 rfl | assumption) (by first | rfl | (simp; done)) (by first | rfl | (simp; done)) (by omega) (by omega) (by decide) fun A' c' => ?_))
       | refine o_move rfl (by decide) ?_
       | refine o_assign rfl (by decide) ?_
       | refine o_nil rfl (by decide) ?_
       | refine o_extract rfl rfl (by decide) ?_
       | refine o_not rfl (by decide) ?_
       | refine o_field0 tabOk rfl rfl rfl rfl rfl (by decide) ?_
       | refine o_field tabOk rfl rfl rfl rfl rfl (by decide) ?_
       | refine o_conv tabOk rfl rfl rfl (by decide) ?_))
    · have hg1 : gt M v = -1 := by have := gt_rng hM v; omega
      rw [hg1] at htk
      repeat' (first
       | ((refine z_isdst 2 ?_; refine o_boxa (vs := [.slice A L.length c]) rfl rfl (by decide) fun ga => ?_))
       | ((refine z_isdst 3 ?_; refine o_boxa (vs := [.slice B M.length e]) rfl rfl (by decide) fun gb => ?_))
       | ((refine z_isdst 4 ?_; refine o_alloca (e := 27) (vs := [.slice none 0 0]) rfl (by kernel_rfl) (by decide) fun g4 => ?_))
       | ((refine z_isdst 5 ?_; refine o_alloca (e := 27) (vs := [.slice none 0 0]) rfl (by kernel_rfl) (by decide) fun g5 => ?_))
       | ((refine z_isdst 16 ?_; refine o_loads tabOk (by (repeat (first | exact hrd | apply Rds.cons)); done) rfl rfl rfl (by first | exact (by rw [il_at _ (by omega), hvv]) | exact il_at _ (by omega) | rfl | rfl) (by decide) ?_))
       | ((refine z_isdst 20 ?_; refine o_callr rfl Try.func42 rfl rfl rfl (get_c M hM _ _ _ _ (by (repeat (first | exact hrd2 | apply Rds.cons)); done) (by omega)) (by decide) ?_))
       | (refine s_is ?_; first
       | (refine s_isagain ?_; first
       | (exact c_again (A', c', k + 1) (by dsimp only; omega) (by dsimp only; omega) ⟨rfl, rfl, rfl, rfl, rfl, rfl, trivial⟩ (fun w h => by dsimp only; rw [htk]; exact ((h.sel 5 [2, 0, 3, 4, 1] (by decide)).mask [true, true, true, true, false]))))
       | (refine s_isw ?_; first
       | refine c_seq ?_
       | refine c_block ?_
       | refine c_region ?_
       | refine c_mixed mixed (by kernel_rfl) ?_
       | refine c_skip ?_
       | refine c_ret ?_
       | refine c_exit ?_
       | (refine s_iscond ?_; first
       | (refine c_true rfl (by first | with_reducible rfl | with_reducible assumption | ((with_reducible refine decide_eq_true ?_); first | with_reducible rfl | with_reducible assumption | omega)) ?_)
       | (refine c_false rfl (by first | with_reducible rfl | with_reducible assumption | ((with_reducible refine decide_eq_false ?_); first | with_reducible assumption | omega)) ?_)
       | (refine c_true rfl (by first | (simp only [Bool.not_eq_true', decide_eq_false_iff_not]; omega) | (with_reducible assumption) | (rw [decide_eq_false] <;> (first | omega | with_reducible rfl)) | (rw [decide_eq_true] <;> (first | omega | with_reducible rfl)) | (simp; done) | (simp; omega)) ?_)
       | (refine c_false rfl (by first | (simp only [Bool.not_eq_false', decide_eq_true_eq]; omega) | (with_reducible assumption) | (rw [decide_eq_false] <;> (first | omega | with_reducible rfl)) | (rw [decide_eq_true] <;> (first | omega | with_reducible rfl)) | (simp; done) | (simp; omega)) ?_)
       | refine c_cond rfl (fun hc => ?_) (fun hc => ?_)
       | refine c_condb rfl (fun hc => ?_) (fun hc => ?_)))
       | refine x_then ?_
       | refine x_then_ret ?_
       | refine x_then_exit ?_
       | refine x_block _ ?_
       | refine x_block_ret _ ?_
       | refine x_block_exit _ ?_
       | refine x_block_past (by decide) ?_
       | refine z_tailm ?_)
       | (refine z_isg0 ?_; first
       | refine z_skipu (by decide) rfl rfl ?_
       | (refine z_want0 rfl rfl (by first | with_reducible rfl | with_reducible assumption | ((with_reducible refine decide_eq_false ?_); first | with_reducible assumption | omega)) ?_)
       | (refine z_skip0 (by decide) rfl rfl (by first | with_reducible rfl | with_reducible assumption | ((with_reducible refine decide_eq_true ?_); first | with_reducible rfl | with_reducible assumption | omega)) ?_)
       | (refine z_want0 rfl rfl (by first | (simp only [Bool.not_eq_false', decide_eq_true_eq]; omega) | (with_reducible assumption) | (rw [decide_eq_false] <;> (first | omega | with_reducible rfl)) | (rw [decide_eq_true] <;> (first | omega | with_reducible rfl)) | (simp; done) | (simp; omega)) ?_)
       | (refine z_skip0 (by decide) rfl rfl (by first | (simp only [Bool.not_eq_true', decide_eq_false_iff_not]; omega) | (with_reducible assumption) | (rw [decide_eq_false] <;> (first | omega | with_reducible rfl)) | (rw [decide_eq_true] <;> (first | omega | with_reducible rfl)) | (simp; done) | (simp; omega)) ?_)
       | refine z_guard0 (by decide) rfl rfl (fun hc => ?_) (fun hc => ?_)
       | refine z_guardb (by decide) rfl rfl (fun hc => ?_) (fun hc => ?_))
       | (refine z_isnil ?_; first
       | refine z_list ?_
       | refine z_mixed ?_
       | refine z_mono0 ?_
       | refine z_mono1 (by decide) fun g => ?_
       | refine z_mono2 (by decide) (by decide) fun g g' => ?_
       | refine z_mixedx ?_
       | refine z_quiet ?_)
       | (refine z_isop ?_; first
       | (refine z_isbin ?_; first
       | (refine z_isb .add ?_; first
       | refine o_add rfl rfl (by omega) (by omega) (by decide) ?_
       | refine o_addw rfl rfl (by decide) ?_)
       | (refine z_isb .eql ?_; first
       | refine o_eq rfl rfl (by decide) ?_
       | refine o_beq tabOk rfl rfl rfl (by decide) ?_
       | refine o_peq tabOk rfl rfl (by decide) ?_)
       | (refine z_isb .lss ?_; first
       | refine o_lt rfl rfl (by decide) ?_))
       | (refine z_isload ?_; first
       | (refine z_ld1 tabOk rfl rfl ?_; first
       | refine o_loadm tabOk rfl rfl rfl (by repeat' (first | exact List.mem_cons_self | apply List.mem_cons_of_mem)) (by first | exact (by rw [il_at _ (by omega), hvv]) | exact il_at _ (by omega) | rfl | rfl) (by decide) ?_
       | refine o_loads tabOk (by first | exact own_rds 0 rfl | exact own_rds 1 rfl | exact own_rds 2 rfl | exact own_rds 3 rfl | assumption) rfl rfl rfl (by first | exact (by rw [il_at _ (by omega), hvv]) | exact il_at _ (by omega) | rfl | rfl) (by decide) ?_)
       | (refine z_ldw tabOk rfl rfl ?_; first
       | (refine o_loadwm tabOk rfl rfl rfl (by repeat' (first | exact List.mem_cons_self | apply List.mem_cons_of_mem)) (by first | rfl | exact il_len _ | (simp only [il_len]; done) | rfl) (by decide) ?_)))
       | (refine z_isstore ?_; first
       | (refine z_stw rfl ?_; first
       | ((refine z_sti 0 rfl rfl ?_; refine o_storeb0 rfl tabOk rfl rfl rfl (by first | rfl | exact il_len _ | (simp only [il_len]; done) | rfl) (by first | rfl) (by first | rfl | exact il_len _ | (simp only [il_len]; done) | rfl) ?_))
       | ((refine z_sti 1 rfl rfl ?_; refine o_storeb1 rfl tabOk rfl rfl rfl (by first | rfl | exact il_len _ | (simp only [il_len]; done) | rfl) (by first | rfl) (by first | rfl | exact il_len _ | (simp only [il_len]; done) | rfl) ?_))
       | ((refine z_sti 2 rfl rfl ?_; refine o_storeb2 rfl tabOk rfl rfl rfl (by first | rfl | exact il_len _ | (simp only [il_len]; done) | rfl) (by first | rfl) (by first | rfl | exact il_len _ | (simp only [il_len]; done) | rfl) ?_))
       | ((refine z_sti 3 rfl rfl ?_; refine o_storeb3 rfl tabOk rfl rfl rfl (by first | rfl | exact il_len _ | (simp only [il_len]; done) | rfl) (by first | rfl) (by first | rfl | exact il_len _ | (simp only [il_len]; done) | rfl) ?_))
       | ((refine z_sti 4 rfl rfl ?_; refine o_storeb4 rfl tabOk rfl rfl rfl (by first | rfl | exact il_len _ | (simp only [il_len]; done) | rfl) (by first | rfl) (by first | rfl | exact il_len _ | (simp only [il_len]; done) | rfl) ?_))
       | ((refine z_sti 5 rfl rfl ?_; refine o_storeb5 rfl tabOk rfl rfl rfl (by first | rfl | exact il_len _ | (simp only [il_len]; done) | rfl) (by first | rfl) (by first | rfl | exact il_len _ | (simp only [il_len]; done) | rfl) ?_))
       | ((refine z_sti 6 rfl rfl ?_; refine o_storeb6 rfl tabOk rfl rfl rfl (by first | rfl | exact il_len _ | (simp only [il_len]; done) | rfl) (by first | rfl) (by first | rfl | exact il_len _ | (simp only [il_len]; done) | rfl) ?_)))
       | (refine z_st1 rfl rfl ?_; first
       | refine o_store rfl tabOk rfl rfl rfl rfl rfl (by first | exact (by rw [il_at _ (by omega), hvv]) | exact il_at _ (by omega) | rfl | rfl) (by first | rfl) ?_
       | ((refine z_sti 1 rfl rfl ?_; refine o_store1 rfl tabOk rfl rfl rfl rfl rfl (by first | exact (by rw [il_at _ (by omega), hvv]) | exact il_at _ (by omega) | rfl | rfl) (by first | rfl) ?_))
       | ((refine z_sti 2 rfl rfl ?_; refine o_store2 rfl tabOk rfl rfl rfl rfl rfl (by first | exact (by rw [il_at _ (by omega), hvv]) | exact il_at _ (by omega) | rfl | rfl) (by first | rfl) ?_))
       | ((refine z_sti 3 rfl rfl ?_; refine o_store3 rfl tabOk rfl rfl rfl rfl rfl (by first | exact (by rw [il_at _ (by omega), hvv]) | exact il_at _ (by omega) | rfl | rfl) (by first | rfl) ?_))
       | ((refine z_sti 4 rfl rfl ?_; refine o_store4 rfl tabOk rfl rfl rfl rfl rfl (by first | exact (by rw [il_at _ (by omega), hvv]) | exact il_at _ (by omega) | rfl | rfl) (by first | rfl) ?_))
       | ((refine z_sti 5 rfl rfl ?_; refine o_store5 rfl tabOk rfl rfl rfl rfl rfl (by first | exact (by rw [il_at _ (by omega), hvv]) | exact il_at _ (by omega) | rfl | rfl) (by first | rfl) ?_))
       | ((refine z_sti 6 rfl rfl ?_; refine o_store6 rfl tabOk rfl rfl rfl rfl rfl (by first | exact (by rw [il_at _ (by omega), hvv]) | exact il_at _ (by omega) | rfl | rfl) (by first | rfl) ?_))))
       | (refine z_ismakes ?_; first
       | refine o_make1 rfl tabOk zeroOk rfl rfl rfl rfl rfl (by decide) fun g => ?_)
       | (refine z_ispick ?_; first
       | (refine o_pick1 rfl (by first | with_reducible rfl | with_reducible assumption | ((with_reducible refine decide_eq_true ?_); first | with_reducible rfl | with_reducible assumption | omega)) rfl (by decide) ?_)
       | (refine o_pick0 rfl (by first | with_reducible rfl | with_reducible assumption | ((with_reducible refine decide_eq_false ?_); first | with_reducible assumption | omega)) rfl (by decide) ?_)
       | (refine o_pick1 rfl (by first | (simp only [Bool.not_eq_true', decide_eq_false_iff_not]; omega) | (with_reducible assumption) | (rw [decide_eq_false] <;> (first | omega | with_reducible rfl)) | (rw [decide_eq_true] <;> (first | omega | with_reducible rfl)) | (simp; done) | (simp; omega)) rfl (by decide) ?_)
       | (refine o_pick0 rfl (by first | (simp only [Bool.not_eq_false', decide_eq_true_eq]; omega) | (with_reducible assumption) | (rw [decide_eq_false] <;> (first | omega | with_reducible rfl)) | (rw [decide_eq_true] <;> (first | omega | with_reducible rfl)) | (simp; done) | (simp; omega)) rfl (by decide) ?_))
       | (refine z_isix ?_; first
       | refine o_index0 tabOk rfl rfl rfl rfl (by omega) (by omega) (by decide) ?_
       | refine o_index1 tabOk rfl rfl rfl rfl (by omega) (by omega) (by decide) ?_
       | refine o_indexsk1 tabOk rfl rfl rfl rfl (by omega) (by omega) (by decide) ?_
       | refine o_indexsk tabOk rfl rfl rfl rfl (by omega) (by omega) (by decide) ?_
       | refine o_indexs1 tabOk (by first | exact hne (by omega) | assumption) rfl rfl rfl rfl (by omega) (by omega) (by decide) ?_)
       | (refine z_isbi ?_; first
       | refine o_len tabOk rfl rfl (by decide) ?_
       | refine o_min rfl rfl (by decide) ?_
       | refine o_max rfl rfl (by decide) ?_
       | (refine o_append0 rfl tabOk zeroOk rfl rfl rfl rfl rfl rfl (by first | exact own_rds 0 rfl | exact own_rds 1 rfl | exact own_rds 2 rfl | exact own_rds 3 rfl | assumption) (by first | rfl | (simp; done)) (by first | rfl | (simp; done)) (by omega) (by omega) (by decide) fun A' c' => ?_)
       | (refine o_append rfl tabOk zeroOk rfl rfl rfl rfl rfl rfl (by first | exact own_rds 0 rfl | exact own_rds 1 rfl | exact own_rds 2 rfl | exact own_rds 3 rfl | assumption) (by first | rfl | (simp; done)) (by first | rfl | (simp; done)) (by omega) (by omega) (by decide) fun A' c' => ?_)
       | (refine z_front rfl 1 rfl ?_; refine o_append rfl tabOk zeroOk rfl rfl rfl rfl rfl rfl (by first | exact own_rds 0 rfl | exact own_rds 1 rfl | exact own_rds 2 rfl | exact own_rds 3 rfl | assumption) (by first | rfl | (simp; done)) (by first | rfl | (simp; done)) (by omega) (by omega) (by decide) fun A' c' => ?_)
       | (refine z_front rfl 2 rfl ?_; refine o_append rfl tabOk zeroOk rfl rfl rfl rfl rfl rfl (by first | exact own_rds 0 rfl | exact own_rds 1 rfl | exact own_rds 2 rfl | exact own_rds 3 rfl | assumption) (by first | rfl | (simp; done)) (by first | rfl | (simp; done)) (by omega) (by omega) (by decide) fun A' c' => ?_)
       | (refine z_front rfl 3 rfl ?_; refine o_append rfl tabOk zeroOk rfl rfl rfl rfl rfl rfl (by first | exact own_rds 0 rfl | exact own_rds 1 rfl | exact own_rds 2 rfl | exact own_rds 3 rfl | assumption) (by first | rfl | (simp; done)) (by first | rfl | (simp; done)) (by omega) (by omega) (by decide) fun A' c' => ?_)
       | (refine z_front rfl 4 rfl ?_; refine o_append rfl tabOk zeroOk rfl rfl rfl rfl rfl rfl (by first | exact own_rds 0 rfl | exact own_rds 1 rfl | exact own_rds 2 rfl | exact own_rds 3 rfl | assumption) (by first | rfl | (simp; done)) (by first | rfl | (simp; done)) (by omega) (by omega) (by decide) fun A' c' => ?_)
       | (refine z_front rfl 5 rfl ?_; refine o_append rfl tabOk zeroOk rfl rfl rfl rfl rfl rfl (by first | exact own_rds 0 rfl | exact own_rds 1 rfl | exact own_rds 2 rfl | exact own_rds 3 rfl | assumption) (by first | rfl | (simp; done)) (by first | rfl | (simp; done)) (by omega) (by omega) (by decide) fun A' c' => ?_))
       | refine o_move rfl (by decide) ?_
       | refine o_assign rfl (by decide) ?_
       | refine o_nil rfl (by decide) ?_
       | refine o_extract rfl rfl (by decide) ?_
       | refine o_not rfl (by decide) ?_
       | refine o_field0 tabOk rfl rfl rfl rfl rfl (by decide) ?_
       | refine o_field tabOk rfl rfl rfl rfl rfl (by decide) ?_
       | refine o_conv tabOk rfl rfl rfl (by decide) ?_))
  · obtain rfl : k = L.length := by omega
    repeat' (first
     | ((refine z_isdst 2 ?_; refine o_boxa (vs := [.slice A L.length c]) rfl rfl (by decide) fun ga => ?_))
     | ((refine z_isdst 3 ?_; refine o_boxa (vs := [.slice B M.length e]) rfl rfl (by decide) fun gb => ?_))
     | ((refine z_isdst 4 ?_; refine o_alloca (e := 27) (vs := [.slice none 0 0]) rfl (by kernel_rfl) (by decide) fun g4 => ?_))
     | ((refine z_isdst 5 ?_; refine o_alloca (e := 27) (vs := [.slice none 0 0]) rfl (by kernel_rfl) (by decide) fun g5 => ?_))
     | ((refine z_isdst 16 ?_; refine o_loads tabOk (by (repeat (first | exact hrd | apply Rds.cons)); done) rfl rfl rfl (by first | exact (by rw [il_at _ (by omega), hvv]) | exact il_at _ (by omega) | rfl | rfl) (by decide) ?_))
     | ((refine z_isdst 20 ?_; refine o_callr rfl Try.func42 rfl rfl rfl (get_c M hM _ _ _ _ (by (repeat (first | exact hrd2 | apply Rds.cons)); done) (by omega)) (by decide) ?_))
     | (refine s_is ?_; first
     | (refine s_isret ?_; first
     | (exact f_r1 rfl (res_c tabOk rfl rfl rfl 2 rfl rfl) (D, d) trivial (by rw [htl]) (fun w h => by rw [← htl, List.take_length] at h; exact ((h.sel 4 [1, 0, 2, 3] (by decide)).mask [true, false, false, false]))))
     | (refine s_isw ?_; first
     | refine c_seq ?_
     | refine c_block ?_
     | refine c_region ?_
     | refine c_mixed mixed (by kernel_rfl) ?_
     | refine c_skip ?_
     | refine c_ret ?_
     | refine c_exit ?_
     | (refine s_iscond ?_; first
     | (refine c_true rfl (by first | with_reducible rfl | with_reducible assumption | ((with_reducible refine decide_eq_true ?_); first | with_reducible rfl | with_reducible assumption | omega)) ?_)
     | (refine c_false rfl (by first | with_reducible rfl | with_reducible assumption | ((with_reducible refine decide_eq_false ?_); first | with_reducible assumption | omega)) ?_)
     | (refine c_true rfl (by first | (simp only [Bool.not_eq_true', decide_eq_false_iff_not]; omega) | (with_reducible assumption) | (rw [decide_eq_false] <;> (first | omega | with_reducible rfl)) | (rw [decide_eq_true] <;> (first | omega | with_reducible rfl)) | (simp; done) | (simp; omega)) ?_)
     | (refine c_false rfl (by first | (simp only [Bool.not_eq_false', decide_eq_true_eq]; omega) | (with_reducible assumption) | (rw [decide_eq_false] <;> (first | omega | with_reducible rfl)) | (rw [decide_eq_true] <;> (first | omega | with_reducible rfl)) | (simp; done) | (simp; omega)) ?_)
     | refine c_cond rfl (fun hc => ?_) (fun hc => ?_)
     | refine c_condb rfl (fun hc => ?_) (fun hc => ?_)))
     | refine x_then ?_
     | refine x_then_ret ?_
     | refine x_then_exit ?_
     | refine x_block _ ?_
     | refine x_block_ret _ ?_
     | refine x_block_exit _ ?_
     | refine x_block_past (by decide) ?_
     | refine z_tailm ?_)
     | (refine z_isg0 ?_; first
     | refine z_skipu (by decide) rfl rfl ?_
     | (refine z_want0 rfl rfl (by first | with_reducible rfl | with_reducible assumption | ((with_reducible refine decide_eq_false ?_); first | with_reducible assumption | omega)) ?_)
     | (refine z_skip0 (by decide) rfl rfl (by first | with_reducible rfl | with_reducible assumption | ((with_reducible refine decide_eq_true ?_); first | with_reducible rfl | with_reducible assumption | omega)) ?_)
     | (refine z_want0 rfl rfl (by first | (simp only [Bool.not_eq_false', decide_eq_true_eq]; omega) | (with_reducible assumption) | (rw [decide_eq_false] <;> (first | omega | with_reducible rfl)) | (rw [decide_eq_true] <;> (first | omega | with_reducible rfl)) | (simp; done) | (simp; omega)) ?_)
     | (refine z_skip0 (by decide) rfl rfl (by first | (simp only [Bool.not_eq_true', decide_eq_false_iff_not]; omega) | (with_reducible assumption) | (rw [decide_eq_false] <;> (first | omega | with_reducible rfl)) | (rw [decide_eq_true] <;> (first | omega | with_reducible rfl)) | (simp; done) | (simp; omega)) ?_)
     | refine z_guard0 (by decide) rfl rfl (fun hc => ?_) (fun hc => ?_)
     | refine z_guardb (by decide) rfl rfl (fun hc => ?_) (fun hc => ?_))
     | (refine z_isnil ?_; first
     | refine z_list ?_
     | refine z_mixed ?_
     | refine z_mono0 ?_
     | refine z_mono1 (by decide) fun g => ?_
     | refine z_mono2 (by decide) (by decide) fun g g' => ?_
     | refine z_mixedx ?_
     | refine z_quiet ?_)
     | (refine z_isop ?_; first
     | (refine z_isbin ?_; first
     | (refine z_isb .add ?_; first
     | refine o_add rfl rfl (by omega) (by omega) (by decide) ?_
     | refine o_addw rfl rfl (by decide) ?_)
     | (refine z_isb .eql ?_; first
     | refine o_eq rfl rfl (by decide) ?_
     | refine o_beq tabOk rfl rfl rfl (by decide) ?_
     | refine o_peq tabOk rfl rfl (by decide) ?_)
     | (refine z_isb .lss ?_; first
     | refine o_lt rfl rfl (by decide) ?_))
     | (refine z_isload ?_; first
     | (refine z_ld1 tabOk rfl rfl ?_; first
     | refine o_loadm tabOk rfl rfl rfl (by repeat' (first | exact List.mem_cons_self | apply List.mem_cons_of_mem)) (by first | exact (by rw [il_at _ (by omega), hvv]) | exact il_at _ (by omega) | rfl | rfl) (by decide) ?_
     | refine o_loads tabOk (by first | exact own_rds 0 rfl | exact own_rds 1 rfl | exact own_rds 2 rfl | exact own_rds 3 rfl | assumption) rfl rfl rfl (by first | exact (by rw [il_at _ (by omega), hvv]) | exact il_at _ (by omega) | rfl | rfl) (by decide) ?_)
     | (refine z_ldw tabOk rfl rfl ?_; first
     | (refine o_loadwm tabOk rfl rfl rfl (by repeat' (first | exact List.mem_cons_self | apply List.mem_cons_of_mem)) (by first | rfl | exact il_len _ | (simp only [il_len]; done) | rfl) (by decide) ?_)))
     | (refine z_isstore ?_; first
     | (refine z_stw rfl ?_; first
     | ((refine z_sti 0 rfl rfl ?_; refine o_storeb0 rfl tabOk rfl rfl rfl (by first | rfl | exact il_len _ | (simp only [il_len]; done) | rfl) (by first | rfl) (by first | rfl | exact il_len _ | (simp only [il_len]; done) | rfl) ?_))
     | ((refine z_sti 1 rfl rfl ?_; refine o_storeb1 rfl tabOk rfl rfl rfl (by first | rfl | exact il_len _ | (simp only [il_len]; done) | rfl) (by first | rfl) (by first | rfl | exact il_len _ | (simp only [il_len]; done) | rfl) ?_))
     | ((refine z_sti 2 rfl rfl ?_; refine o_storeb2 rfl tabOk rfl rfl rfl (by first | rfl | exact il_len _ | (simp only [il_len]; done) | rfl) (by first | rfl) (by first | rfl | exact il_len _ | (simp only [il_len]; done) | rfl) ?_))
     | ((refine z_sti 3 rfl rfl ?_; refine o_storeb3 rfl tabOk rfl rfl rfl (by first | rfl | exact il_len _ | (simp only [il_len]; done) | rfl) (by first | rfl) (by first | rfl | exact il_len _ | (simp only [il_len]; done) | rfl) ?_))
     | ((refine z_sti 4 rfl rfl ?_; refine o_storeb4 rfl tabOk rfl rfl rfl (by first | rfl | exact il_len _ | (simp only [il_len]; done) | rfl) (by first | rfl) (by first | rfl | exact il_len _ | (simp only [il_len]; done) | rfl) ?_))
     | ((refine z_sti 5 rfl rfl ?_; refine o_storeb5 rfl tabOk rfl rfl rfl (by first | rfl | exact il_len _ | (simp only [il_len]; done) | rfl) (by first | rfl) (by first | rfl | exact il_len _ | (simp only [il_len]; done) | rfl) ?_))
     | ((refine z_sti 6 rfl rfl ?_; refine o_storeb6 rfl tabOk rfl rfl rfl (by first | rfl | exact il_len _ | (simp only [il_len]; done) | rfl) (by first | rfl) (by first | rfl | exact il_len _ | (simp only [il_len]; done) | rfl) ?_)))
     | (refine z_st1 rfl rfl ?_; first
     | refine o_store rfl tabOk rfl rfl rfl rfl rfl (by first | exact (by rw [il_at _ (by omega), hvv]) | exact il_at _ (by omega) | rfl | rfl) (by first | rfl) ?_
     | ((refine z_sti 1 rfl rfl ?_; refine o_store1 rfl tabOk rfl rfl rfl rfl rfl (by first | exact (by rw [il_at _ (by omega), hvv]) | exact il_at _ (by omega) | rfl | rfl) (by first | rfl) ?_))
     | ((refine z_sti 2 rfl rfl ?_; refine o_store2 rfl tabOk rfl rfl rfl rfl rfl (by first | exact (by rw [il_at _ (by omega), hvv]) | exact il_at _ (by omega) | rfl | rfl) (by first | rfl) ?_))
     | ((refine z_sti 3 rfl rfl ?_; refine o_store3 rfl tabOk rfl rfl rfl rfl rfl (by first | exact (by rw [il_at _ (by omega), hvv]) | exact il_at _ (by omega) | rfl | rfl) (by first | rfl) ?_))
     | ((refine z_sti 4 rfl rfl ?_; refine o_store4 rfl tabOk rfl rfl rfl rfl rfl (by first | exact (by rw [il_at _ (by omega), hvv]) | exact il_at _ (by omega) | rfl | rfl) (by first | rfl) ?_))
     | ((refine z_sti 5 rfl rfl ?_; refine o_store5 rfl tabOk rfl rfl rfl rfl rfl (by first | exact (by rw [il_at _ (by omega), hvv]) | exact il_at _ (by omega) | rfl | rfl) (by first | rfl) ?_))
     | ((refine z_sti 6 rfl rfl ?_; refine o_store6 rfl tabOk rfl rfl rfl rfl rfl (by first | exact (by rw [il_at _ (by omega), hvv]) | exact il_at _ (by omega) | rfl | rfl) (by first | rfl) ?_))))
     | (refine z_ismakes ?_; first
     | refine o_make1 rfl tabOk zeroOk rfl rfl rfl rfl rfl (by decide) fun g => ?_)
     | (refine z_ispick ?_; first
     | (refine o_pick1 rfl (by first | with_reducible rfl | with_reducible assumption | ((with_reducible refine decide_eq_true ?_); first | with_reducible rfl | with_reducible assumption | omega)) rfl (by decide) ?_)
     | (refine o_pick0 rfl (by first | with_reducible rfl | with_reducible assumption | ((with_reducible refine decide_eq_false ?_); first | with_reducible assumption | omega)) rfl (by decide) ?_)
     | (refine o_pick1 rfl (by first | (simp only [Bool.not_eq_true', decide_eq_false_iff_not]; omega) | (with_reducible assumption) | (rw [decide_eq_false] <;> (first | omega | with_reducible rfl)) | (rw [decide_eq_true] <;> (first | omega | with_reducible rfl)) | (simp; done) | (simp; omega)) rfl (by decide) ?_)
     | (refine o_pick0 rfl (by first | (simp only [Bool.not_eq_false', decide_eq_true_eq]; omega) | (with_reducible assumption) | (rw [decide_eq_false] <;> (first | omega | with_reducible rfl)) | (rw [decide_eq_true] <;> (first | omega | with_reducible rfl)) | (simp; done) | (simp; omega)) rfl (by decide) ?_))
     | (refine z_isix ?_; first
     | refine o_index0 tabOk rfl rfl rfl rfl (by omega) (by omega) (by decide) ?_
     | refine o_index1 tabOk rfl rfl rfl rfl (by omega) (by omega) (by decide) ?_
     | refine o_indexsk1 tabOk rfl rfl rfl rfl (by omega) (by omega) (by decide) ?_
     | refine o_indexsk tabOk rfl rfl rfl rfl (by omega) (by omega) (by decide) ?_
     | refine o_indexs1 tabOk (by first | exact hne (by omega) | assumption) rfl rfl rfl rfl (by omega) (by omega) (by decide) ?_)
     | (refine z_isbi ?_; first
     | refine o_len tabOk rfl rfl (by decide) ?_
     | refine o_min rfl rfl (by decide) ?_
     | refine o_max rfl rfl (by decide) ?_
     | (refine o_append0 rfl tabOk zeroOk rfl rfl rfl rfl rfl rfl (by first | exact own_rds 0 rfl | exact own_rds 1 rfl | exact own_rds 2 rfl | exact own_rds 3 rfl | assumption) (by first | rfl | (simp; done)) (by first | rfl | (simp; done)) (by omega) (by omega) (by decide) fun A' c' => ?_)
     | (refine o_append rfl tabOk zeroOk rfl rfl rfl rfl rfl rfl (by first | exact own_rds 0 rfl | exact own_rds 1 rfl | exact own_rds 2 rfl | exact own_rds 3 rfl | assumption) (by first | rfl | (simp; done)) (by first | rfl | (simp; done)) (by omega) (by omega) (by decide) fun A' c' => ?_)
     | (refine z_front rfl 1 rfl ?_; refine o_append rfl tabOk zeroOk rfl rfl rfl rfl rfl rfl (by first | exact own_rds 0 rfl | exact own_rds 1 rfl | exact own_rds 2 rfl | exact own_rds 3 rfl | assumption) (by first | rfl | (simp; done)) (by first | rfl | (simp; done)) (by omega) (by omega) (by decide) fun A' c' => ?_)
     | (refine z_front rfl 2 rfl ?_; refine o_append rfl tabOk zeroOk rfl rfl rfl rfl rfl rfl (by first | exact own_rds 0 rfl | exact own_rds 1 rfl | exact own_rds 2 rfl | exact own_rds 3 rfl | assumption) (by first | rfl | (simp; done)) (by first | rfl | (simp; done)) (by omega) (by omega) (by decide) fun A' c' => ?_)
     | (refine z_front rfl 3 rfl ?_; refine o_append rfl tabOk zeroOk rfl rfl rfl rfl rfl rfl (by first | exact own_rds 0 rfl | exact own_rds 1 rfl | exact own_rds 2 rfl | exact own_rds 3 rfl | assumption) (by first | rfl | (simp; done)) (by first | rfl | (simp; done)) (by omega) (by omega) (by decide) fun A' c' => ?_)
     | (refine z_front rfl 4 rfl ?_; refine o_append rfl tabOk zeroOk rfl rfl rfl rfl rfl rfl (by first | exact own_rds 0 rfl | exact own_rds 1 rfl | exact own_rds 2 rfl | exact own_rds 3 rfl | assumption) (by first | rfl | (simp; done)) (by first | rfl | (simp; done)) (by omega) (by omega) (by decide) fun A' c' => ?_)
     | (refine z_front rfl 5 rfl ?_; refine o_append rfl tabOk zeroOk rfl rfl rfl rfl rfl rfl (by first | exact own_rds 0 rfl | exact own_rds 1 rfl | exact own_rds 2 rfl | exact own_rds 3 rfl | assumption) (by first | rfl | (simp; done)) (by first | rfl | (simp; done)) (by omega) (by omega) (by decide) fun A' c' => ?_))
     | refine o_move rfl (by decide) ?_
     | refine o_assign rfl (by decide) ?_
     | refine o_nil rfl (by decide) ?_
     | refine o_extract rfl rfl (by decide) ?_
     | refine o_not rfl (by decide) ?_
     | refine o_field0 tabOk rfl rfl rfl rfl rfl (by decide) ?_
     | refine o_field tabOk rfl rfl rfl rfl rfl (by decide) ?_
     | refine o_conv tabOk rfl rfl rfl (by decide) ?_))
theorem rthrough_c (L M : List Int) (A B : Option Addr) (c e : Nat) (fr : List Chunk) (hrd : Rds fr A (il L)) (hrd2 : Rds fr B (il M)) (hx : L.length ≤ 1000000) (hx2 : M.length ≤ 1000000) :
    Does Try.prog 38 [.slice A L.length c, .slice B M.length e] fr (fun _ : Option Addr × Nat => True) (fun x => .slice x.1 (thr L M).length x.2) (fun x => own x.1 x.2 3 1 (thr L M).length (il (thr L M)) :: fr) := by
  intro w hw
  have hne := il_ne hrd hw
  have htl := thr_len L M
  refine f_enter Try.func38 rfl Try.ntmps38 rfl hw ?_
  repeat' (first
   | ((refine z_isdst 18 ?_; refine o_loads tabOk (by (repeat (first | exact hrd | apply Rds.cons)); done) rfl rfl rfl (by first | exact (by rw [il_at _ (by omega), hvv]) | exact il_at _ (by omega) | rfl | rfl) (by decide) ?_))
   | ((refine z_isdst 19 ?_; refine o_callr rfl Try.func34 rfl rfl rfl (rget_c M _ _ _ _ (by (repeat (first | exact hrd2 | apply Rds.cons)); done) (by omega)) (by decide) ?_))
   | (refine s_is ?_; first
   | (refine s_isw ?_; first
   | (refine s_isloop ?_; first
   | ((refine c_loop (X := Option Addr × Nat × Nat) (fun y => y.2.2 ≤ L.length) (fun y => [(0, .slice A L.length c), (1, .slice B M.length e), (5, .slice y.1 y.2.2 y.2.1), (6, .int .i64 y.2.2)]) (fun y => own y.1 y.2.1 3 1 y.2.2 (il ((thr L M).take y.2.2)) :: fr) (fun y => L.length - y.2.2) (none, 0, 0) (Nat.zero_le _) ⟨rfl, rfl, rfl, rfl, trivial⟩ (fun w h => by dsimp only; rw [List.take_zero, il_nil]; exact h.nil 3 1) (fun y hk => ?_); obtain ⟨D, d, k⟩ := y; dsimp only at hk ⊢; refine hold ?_)))
   | refine c_seq ?_
   | refine c_block ?_
   | refine c_region ?_
   | refine c_mixed mixed (by kernel_rfl) ?_
   | refine c_skip ?_
   | refine c_ret ?_
   | refine c_exit ?_
   | (refine s_iscond ?_; first
   | (refine c_true rfl (by first | with_reducible rfl | with_reducible assumption | ((with_reducible refine decide_eq_true ?_); first | with_reducible rfl | with_reducible assumption | omega)) ?_)
   | (refine c_false rfl (by first | with_reducible rfl | with_reducible assumption | ((with_reducible refine decide_eq_false ?_); first | with_reducible assumption | omega)) ?_)
   | (refine c_true rfl (by first | (simp only [Bool.not_eq_true', decide_eq_false_iff_not]; omega) | (with_reducible assumption) | (rw [decide_eq_false] <;> (first | omega | with_reducible rfl)) | (rw [decide_eq_true] <;> (first | omega | with_reducible rfl)) | (simp; done) | (simp; omega)) ?_)
   | (refine c_false rfl (by first | (simp only [Bool.not_eq_false', decide_eq_true_eq]; omega) | (with_reducible assumption) | (rw [decide_eq_false] <;> (first | omega | with_reducible rfl)) | (rw [decide_eq_true] <;> (first | omega | with_reducible rfl)) | (simp; done) | (simp; omega)) ?_)
   | refine c_cond rfl (fun hc => ?_) (fun hc => ?_)
   | refine c_condb rfl (fun hc => ?_) (fun hc => ?_)))
   | refine x_then ?_
   | refine x_then_ret ?_
   | refine x_then_exit ?_
   | refine x_block _ ?_
   | refine x_block_ret _ ?_
   | refine x_block_exit _ ?_
   | refine x_block_past (by decide) ?_
   | refine z_tailm ?_)
   | (refine z_isnil ?_; first
   | refine z_list ?_
   | refine z_mixed ?_
   | refine z_mono0 ?_
   | refine z_mono1 (by decide) fun g => ?_
   | refine z_mono2 (by decide) (by decide) fun g g' => ?_
   | refine z_mixedx ?_
   | refine z_quiet ?_)
   | (refine z_isop ?_; first
   | (refine z_isbin ?_; first
   | (refine z_isb .add ?_; first
   | refine o_add rfl rfl (by omega) (by omega) (by decide) ?_
   | refine o_addw rfl rfl (by decide) ?_)
   | (refine z_isb .lss ?_; first
   | refine o_lt rfl rfl (by decide) ?_))
   | (refine z_isload ?_; first
   | (refine z_ld1 tabOk rfl rfl ?_; first
   | refine o_loadm tabOk rfl rfl rfl (by repeat' (first | exact List.mem_cons_self | apply List.mem_cons_of_mem)) (by first | exact (by rw [il_at _ (by omega), hvv]) | exact il_at _ (by omega) | rfl | rfl) (by decide) ?_
   | refine o_loads tabOk (by first | exact own_rds 0 rfl | exact own_rds 1 rfl | exact own_rds 2 rfl | exact own_rds 3 rfl | assumption) rfl rfl rfl (by first | exact (by rw [il_at _ (by omega), hvv]) | exact il_at _ (by omega) | rfl | rfl) (by decide) ?_)
   | (refine z_ldw tabOk rfl rfl ?_; first
   | (refine o_loadwm tabOk rfl rfl rfl (by repeat' (first | exact List.mem_cons_self | apply List.mem_cons_of_mem)) (by first | rfl | exact il_len _ | (simp only [il_len]; done) | rfl) (by decide) ?_)))
   | (refine z_ismakes ?_; first
   | refine o_make1 rfl tabOk zeroOk rfl rfl rfl rfl rfl (by decide) fun g => ?_)
   | (refine z_isix ?_; first
   | refine o_index0 tabOk rfl rfl rfl rfl (by omega) (by omega) (by decide) ?_
   | refine o_index1 tabOk rfl rfl rfl rfl (by omega) (by omega) (by decide) ?_
   | refine o_indexsk1 tabOk rfl rfl rfl rfl (by omega) (by omega) (by decide) ?_
   | refine o_indexsk tabOk rfl rfl rfl rfl (by omega) (by omega) (by decide) ?_
   | refine o_indexs1 tabOk (by first | exact hne (by omega) | assumption) rfl rfl rfl rfl (by omega) (by omega) (by decide) ?_)
   | (refine z_isbi ?_; first
   | refine o_len tabOk rfl rfl (by decide) ?_
   | refine o_min rfl rfl (by decide) ?_
   | refine o_max rfl rfl (by decide) ?_
   | (refine o_append0 rfl tabOk zeroOk rfl rfl rfl rfl rfl rfl (by first | exact own_rds 0 rfl | exact own_rds 1 rfl | exact own_rds 2 rfl | exact own_rds 3 rfl | assumption) (by first | rfl | (simp; done)) (by first | rfl | (simp; done)) (by omega) (by omega) (by decide) fun A' c' => ?_)
   | (refine o_append rfl tabOk zeroOk rfl rfl rfl rfl rfl rfl (by first | exact own_rds 0 rfl | exact own_rds 1 rfl | exact own_rds 2 rfl | exact own_rds 3 rfl | assumption) (by first | rfl | (simp; done)) (by first | rfl | (simp; done)) (by omega) (by omega) (by decide) fun A' c' => ?_)
   | (refine z_front rfl 1 rfl ?_; refine o_append rfl tabOk zeroOk rfl rfl rfl rfl rfl rfl (by first | exact own_rds 0 rfl | exact own_rds 1 rfl | exact own_rds 2 rfl | exact own_rds 3 rfl | assumption) (by first | rfl | (simp; done)) (by first | rfl | (simp; done)) (by omega) (by omega) (by decide) fun A' c' => ?_)
   | (refine z_front rfl 2 rfl ?_; refine o_append rfl tabOk zeroOk rfl rfl rfl rfl rfl rfl (by first | exact own_rds 0 rfl | exact own_rds 1 rfl | exact own_rds 2 rfl | exact own_rds 3 rfl | assumption) (by first | rfl | (simp; done)) (by first | rfl | (simp; done)) (by omega) (by omega) (by decide) fun A' c' => ?_)
   | (refine z_front rfl 3 rfl ?_; refine o_append rfl tabOk zeroOk rfl rfl rfl rfl rfl rfl (by first | exact own_rds 0 rfl | exact own_rds 1 rfl | exact own_rds 2 rfl | exact own_rds 3 rfl | assumption) (by first | rfl | (simp; done)) (by first | rfl | (simp; done)) (by omega) (by omega) (by decide) fun A' c' => ?_)
   | (refine z_front rfl 4 rfl ?_; refine o_append rfl tabOk zeroOk rfl rfl rfl rfl rfl rfl (by first | exact own_rds 0 rfl | exact own_rds 1 rfl | exact own_rds 2 rfl | exact own_rds 3 rfl | assumption) (by first | rfl | (simp; done)) (by first | rfl | (simp; done)) (by omega) (by omega) (by decide) fun A' c' => ?_)
   | (refine z_front rfl 5 rfl ?_; refine o_append rfl tabOk zeroOk rfl rfl rfl rfl rfl rfl (by first | exact own_rds 0 rfl | exact own_rds 1 rfl | exact own_rds 2 rfl | exact own_rds 3 rfl | assumption) (by first | rfl | (simp; done)) (by first | rfl | (simp; done)) (by omega) (by omega) (by decide) fun A' c' => ?_))
   | refine o_move rfl (by decide) ?_
   | refine o_assign rfl (by decide) ?_
   | refine o_nil rfl (by decide) ?_
   | refine o_extract rfl rfl (by decide) ?_
   | refine o_not rfl (by decide) ?_
   | refine o_field0 tabOk rfl rfl rfl rfl rfl (by decide) ?_
   | refine o_field tabOk rfl rfl rfl rfl rfl (by decide) ?_
   | refine o_conv tabOk rfl rfl rfl (by decide) ?_))
  refine Hold.go ?_
  by_cases hl : k < L.length
  · have hta := thr_at (M := M) hl
    have htk := il_tk (L := thr L M) (k := k) (by rw [htl]; exact hl)
    rw [hta] at htk
    have e3 : ((k : Int)).toNat = k := Int.toNat_natCast k
    rw [← e3] at htk
    generalize hvv : L.getD ((k : Int)).toNat 0 = v at *
    rw [e3] at htk
    repeat' (first
     | ((refine z_isdst 18 ?_; refine o_loads tabOk (by (repeat (first | exact hrd | apply Rds.cons)); done) rfl rfl rfl (by first | exact (by rw [il_at _ (by omega), hvv]) | exact il_at _ (by omega) | rfl | rfl) (by decide) ?_))
     | ((refine z_isdst 19 ?_; refine o_callr rfl Try.func34 rfl rfl rfl (rget_c M _ _ _ _ (by (repeat (first | exact hrd2 | apply Rds.cons)); done) (by omega)) (by decide) ?_))
     | (refine s_is ?_; first
     | (refine s_isagain ?_; first
     | (exact c_again (A', c', k + 1) (by dsimp only; omega) (by dsimp only; omega) ⟨rfl, rfl, rfl, rfl, trivial⟩ (fun w h => by dsimp only; rw [htk]; exact ((h.sel 2 [0, 1] (by decide)).mask [true, false]))))
     | (refine s_isw ?_; first
     | refine c_seq ?_
     | refine c_block ?_
     | refine c_region ?_
     | refine c_mixed mixed (by kernel_rfl) ?_
     | refine c_skip ?_
     | refine c_ret ?_
     | refine c_exit ?_
     | (refine s_iscond ?_; first
     | (refine c_true rfl (by first | with_reducible rfl | with_reducible assumption | ((with_reducible refine decide_eq_true ?_); first | with_reducible rfl | with_reducible assumption | omega)) ?_)
     | (refine c_false rfl (by first | with_reducible rfl | with_reducible assumption | ((with_reducible refine decide_eq_false ?_); first | with_reducible assumption | omega)) ?_)
     | (refine c_true rfl (by first | (simp only [Bool.not_eq_true', decide_eq_false_iff_not]; omega) | (with_reducible assumption) | (rw [decide_eq_false] <;> (first | omega | with_reducible rfl)) | (rw [decide_eq_true] <;> (first | omega | with_reducible rfl)) | (simp; done) | (simp; omega)) ?_)
     | (refine c_false rfl (by first | (simp only [Bool.not_eq_false', decide_eq_true_eq]; omega) | (with_reducible assumption) | (rw [decide_eq_false] <;> (first | omega | with_reducible rfl)) | (rw [decide_eq_true] <;> (first | omega | with_reducible rfl)) | (simp; done) | (simp; omega)) ?_)
     | refine c_cond rfl (fun hc => ?_) (fun hc => ?_)
     | refine c_condb rfl (fun hc => ?_) (fun hc => ?_)))
     | refine x_then ?_
     | refine x_then_ret ?_
     | refine x_then_exit ?_
     | refine x_block _ ?_
     | refine x_block_ret _ ?_
     | refine x_block_exit _ ?_
     | refine x_block_past (by decide) ?_
     | refine z_tailm ?_)
     | (refine z_isnil ?_; first
     | refine z_list ?_
     | refine z_mixed ?_
     | refine z_mono0 ?_
     | refine z_mono1 (by decide) fun g => ?_
     | refine z_mono2 (by decide) (by decide) fun g g' => ?_
     | refine z_mixedx ?_
     | refine z_quiet ?_)
     | (refine z_isop ?_; first
     | (refine z_isbin ?_; first
     | (refine z_isb .add ?_; first
     | refine o_add rfl rfl (by omega) (by omega) (by decide) ?_
     | refine o_addw rfl rfl (by decide) ?_)
     | (refine z_isb .lss ?_; first
     | refine o_lt rfl rfl (by decide) ?_))
     | (refine z_isload ?_; first
     | (refine z_ld1 tabOk rfl rfl ?_; first
     | refine o_loadm tabOk rfl rfl rfl (by repeat' (first | exact List.mem_cons_self | apply List.mem_cons_of_mem)) (by first | exact (by rw [il_at _ (by omega), hvv]) | exact il_at _ (by omega) | rfl | rfl) (by decide) ?_
     | refine o_loads tabOk (by first | exact own_rds 0 rfl | exact own_rds 1 rfl | exact own_rds 2 rfl | exact own_rds 3 rfl | assumption) rfl rfl rfl (by first | exact (by rw [il_at _ (by omega), hvv]) | exact il_at _ (by omega) | rfl | rfl) (by decide) ?_)
     | (refine z_ldw tabOk rfl rfl ?_; first
     | (refine o_loadwm tabOk rfl rfl rfl (by repeat' (first | exact List.mem_cons_self | apply List.mem_cons_of_mem)) (by first | rfl | exact il_len _ | (simp only [il_len]; done) | rfl) (by decide) ?_)))
     | (refine z_ismakes ?_; first
     | refine o_make1 rfl tabOk zeroOk rfl rfl rfl rfl rfl (by decide) fun g => ?_)
     | (refine z_isix ?_; first
     | refine o_index0 tabOk rfl rfl rfl rfl (by omega) (by omega) (by decide) ?_
     | refine o_index1 tabOk rfl rfl rfl rfl (by omega) (by omega) (by decide) ?_
     | refine o_indexsk1 tabOk rfl rfl rfl rfl (by omega) (by omega) (by decide) ?_
     | refine o_indexsk tabOk rfl rfl rfl rfl (by omega) (by omega) (by decide) ?_
     | refine o_indexs1 tabOk (by first | exact hne (by omega) | assumption) rfl rfl rfl rfl (by omega) (by omega) (by decide) ?_)
     | (refine z_isbi ?_; first
     | refine o_len tabOk rfl rfl (by decide) ?_
     | refine o_min rfl rfl (by decide) ?_
     | refine o_max rfl rfl (by decide) ?_
     | (refine o_append0 rfl tabOk zeroOk rfl rfl rfl rfl rfl rfl (by first | exact own_rds 0 rfl | exact own_rds 1 rfl | exact own_rds 2 rfl | exact own_rds 3 rfl | assumption) (by first | rfl | (simp; done)) (by first | rfl | (simp; done)) (by omega) (by omega) (by decide) fun A' c' => ?_)
     | (refine o_append rfl tabOk zeroOk rfl rfl rfl rfl rfl rfl (by first | exact own_rds 0 rfl | exact own_rds 1 rfl | exact own_rds 2 rfl | exact own_rds 3 rfl | assumption) (by first | rfl | (simp; done)) (by first | rfl | (simp; done)) (by omega) (by omega) (by decide) fun A' c' => ?_)
     | (refine z_front rfl 1 rfl ?_; refine o_append rfl tabOk zeroOk rfl rfl rfl rfl rfl rfl (by first | exact own_rds 0 rfl | exact own_rds 1 rfl | exact own_rds 2 rfl | exact own_rds 3 rfl | assumption) (by first | rfl | (simp; done)) (by first | rfl | (simp; done)) (by omega) (by omega) (by decide) fun A' c' => ?_)
     | (refine z_front rfl 2 rfl ?_; refine o_append rfl tabOk zeroOk rfl rfl rfl rfl rfl rfl (by first | exact own_rds 0 rfl | exact own_rds 1 rfl | exact own_rds 2 rfl | exact own_rds 3 rfl | assumption) (by first | rfl | (simp; done)) (by first | rfl | (simp; done)) (by omega) (by omega) (by decide) fun A' c' => ?_)
     | (refine z_front rfl 3 rfl ?_; refine o_append rfl tabOk zeroOk rfl rfl rfl rfl rfl rfl (by first | exact own_rds 0 rfl | exact own_rds 1 rfl | exact own_rds 2 rfl | exact own_rds 3 rfl | assumption) (by first | rfl | (simp; done)) (by first | rfl | (simp; done)) (by omega) (by omega) (by decide) fun A' c' => ?_)
     | (refine z_front rfl 4 rfl ?_; refine o_append rfl tabOk zeroOk rfl rfl rfl rfl rfl rfl (by first | exact own_rds 0 rfl | exact own_rds 1 rfl | exact own_rds 2 rfl | exact own_rds 3 rfl | assumption) (by first | rfl | (simp; done)) (by first | rfl | (simp; done)) (by omega) (by omega) (by decide) fun A' c' => ?_)
     | (refine z_front rfl 5 rfl ?_; refine o_append rfl tabOk zeroOk rfl rfl rfl rfl rfl rfl (by first | exact own_rds 0 rfl | exact own_rds 1 rfl | exact own_rds 2 rfl | exact own_rds 3 rfl | assumption) (by first | rfl | (simp; done)) (by first | rfl | (simp; done)) (by omega) (by omega) (by decide) fun A' c' => ?_))
     | refine o_move rfl (by decide) ?_
     | refine o_assign rfl (by decide) ?_
     | refine o_nil rfl (by decide) ?_
     | refine o_extract rfl rfl (by decide) ?_
     | refine o_not rfl (by decide) ?_
     | refine o_field0 tabOk rfl rfl rfl rfl rfl (by decide) ?_
     | refine o_field tabOk rfl rfl rfl rfl rfl (by decide) ?_
     | refine o_conv tabOk rfl rfl rfl (by decide) ?_))
  · obtain rfl : k = L.length := by omega
    repeat' (first
     | ((refine z_isdst 18 ?_; refine o_loads tabOk (by (repeat (first | exact hrd | apply Rds.cons)); done) rfl rfl rfl (by first | exact (by rw [il_at _ (by omega), hvv]) | exact il_at _ (by omega) | rfl | rfl) (by decide) ?_))
     | ((refine z_isdst 19 ?_; refine o_callr rfl Try.func34 rfl rfl rfl (rget_c M _ _ _ _ (by (repeat (first | exact hrd2 | apply Rds.cons)); done) (by omega)) (by decide) ?_))
     | (refine s_is ?_; first
     | (refine s_isret ?_; first
     | (exact f_r1 rfl (res_t rfl) (D, d) trivial (by rw [htl]) (fun w h => by rw [← htl, List.take_length] at h; exact h)))
     | (refine s_isw ?_; first
     | refine c_seq ?_
     | refine c_block ?_
     | refine c_region ?_
     | refine c_mixed mixed (by kernel_rfl) ?_
     | refine c_skip ?_
     | refine c_ret ?_
     | refine c_exit ?_
     | (refine s_iscond ?_; first
     | (refine c_true rfl (by first | with_reducible rfl | with_reducible assumption | ((with_reducible refine decide_eq_true ?_); first | with_reducible rfl | with_reducible assumption | omega)) ?_)
     | (refine c_false rfl (by first | with_reducible rfl | with_reducible assumption | ((with_reducible refine decide_eq_false ?_); first | with_reducible assumption | omega)) ?_)
     | (refine c_true rfl (by first | (simp only [Bool.not_eq_true', decide_eq_false_iff_not]; omega) | (with_reducible assumption) | (rw [decide_eq_false] <;> (first | omega | with_reducible rfl)) | (rw [decide_eq_true] <;> (first | omega | with_reducible rfl)) | (simp; done) | (simp; omega)) ?_)
     | (refine c_false rfl (by first | (simp only [Bool.not_eq_false', decide_eq_true_eq]; omega) | (with_reducible assumption) | (rw [decide_eq_false] <;> (first | omega | with_reducible rfl)) | (rw [decide_eq_true] <;> (first | omega | with_reducible rfl)) | (simp; done) | (simp; omega)) ?_)
     | refine c_cond rfl (fun hc => ?_) (fun hc => ?_)
     | refine c_condb rfl (fun hc => ?_) (fun hc => ?_)))
     | refine x_then ?_
     | refine x_then_ret ?_
     | refine x_then_exit ?_
     | refine x_block _ ?_
     | refine x_block_ret _ ?_
     | refine x_block_exit _ ?_
     | refine x_block_past (by decide) ?_
     | refine z_tailm ?_)
     | (refine z_isnil ?_; first
     | refine z_list ?_
     | refine z_mixed ?_
     | refine z_mono0 ?_
     | refine z_mono1 (by decide) fun g => ?_
     | refine z_mono2 (by decide) (by decide) fun g g' => ?_
     | refine z_mixedx ?_
     | refine z_quiet ?_)
     | (refine z_isop ?_; first
     | (refine z_isbin ?_; first
     | (refine z_isb .add ?_; first
     | refine o_add rfl rfl (by omega) (by omega) (by decide) ?_
     | refine o_addw rfl rfl (by decide) ?_)
     | (refine z_isb .lss ?_; first
     | refine o_lt rfl rfl (by decide) ?_))
     | (refine z_isload ?_; first
     | (refine z_ld1 tabOk rfl rfl ?_; first
     | refine o_loadm tabOk rfl rfl rfl (by repeat' (first | exact List.mem_cons_self | apply List.mem_cons_of_mem)) (by first | exact (by rw [il_at _ (by omega), hvv]) | exact il_at _ (by omega) | rfl | rfl) (by decide) ?_
     | refine o_loads tabOk (by first | exact own_rds 0 rfl | exact own_rds 1 rfl | exact own_rds 2 rfl | exact own_rds 3 rfl | assumption) rfl rfl rfl (by first | exact (by rw [il_at _ (by omega), hvv]) | exact il_at _ (by omega) | rfl | rfl) (by decide) ?_)
     | (refine z_ldw tabOk rfl rfl ?_; first
     | (refine o_loadwm tabOk rfl rfl rfl (by repeat' (first | exact List.mem_cons_self | apply List.mem_cons_of_mem)) (by first | rfl | exact il_len _ | (simp only [il_len]; done) | rfl) (by decide) ?_)))
     | (refine z_ismakes ?_; first
     | refine o_make1 rfl tabOk zeroOk rfl rfl rfl rfl rfl (by decide) fun g => ?_)
     | (refine z_isix ?_; first
     | refine o_index0 tabOk rfl rfl rfl rfl (by omega) (by omega) (by decide) ?_
     | refine o_index1 tabOk rfl rfl rfl rfl (by omega) (by omega) (by decide) ?_
     | refine o_indexsk1 tabOk rfl rfl rfl rfl (by omega) (by omega) (by decide) ?_
     | refine o_indexsk tabOk rfl rfl rfl rfl (by omega) (by omega) (by decide) ?_
     | refine o_indexs1 tabOk (by first | exact hne (by omega) | assumption) rfl rfl rfl rfl (by omega) (by omega) (by decide) ?_)
     | (refine z_isbi ?_; first
     | refine o_len tabOk rfl rfl (by decide) ?_
     | refine o_min rfl rfl (by decide) ?_
     | refine o_max rfl rfl (by decide) ?_
     | (refine o_append0 rfl tabOk zeroOk rfl rfl rfl rfl rfl rfl (by first | exact own_rds 0 rfl | exact own_rds 1 rfl | exact own_rds 2 rfl | exact own_rds 3 rfl | assumption) (by first | rfl | (simp; done)) (by first | rfl | (simp; done)) (by omega) (by omega) (by decide) fun A' c' => ?_)
     | (refine o_append rfl tabOk zeroOk rfl rfl rfl rfl rfl rfl (by first | exact own_rds 0 rfl | exact own_rds 1 rfl | exact own_rds 2 rfl | exact own_rds 3 rfl | assumption) (by first | rfl | (simp; done)) (by first | rfl | (simp; done)) (by omega) (by omega) (by decide) fun A' c' => ?_)
     | (refine z_front rfl 1 rfl ?_; refine o_append rfl tabOk zeroOk rfl rfl rfl rfl rfl rfl (by first | exact own_rds 0 rfl | exact own_rds 1 rfl | exact own_rds 2 rfl | exact own_rds 3 rfl | assumption) (by first | rfl | (simp; done)) (by first | rfl | (simp; done)) (by omega) (by omega) (by decide) fun A' c' => ?_)
     | (refine z_front rfl 2 rfl ?_; refine o_append rfl tabOk zeroOk rfl rfl rfl rfl rfl rfl (by first | exact own_rds 0 rfl | exact own_rds 1 rfl | exact own_rds 2 rfl | exact own_rds 3 rfl | assumption) (by first | rfl | (simp; done)) (by first | rfl | (simp; done)) (by omega) (by omega) (by decide) fun A' c' => ?_)
     | (refine z_front rfl 3 rfl ?_; refine o_append rfl tabOk zeroOk rfl rfl rfl rfl rfl rfl (by first | exact own_rds 0 rfl | exact own_rds 1 rfl | exact own_rds 2 rfl | exact own_rds 3 rfl | assumption) (by first | rfl | (simp; done)) (by first | rfl | (simp; done)) (by omega) (by omega) (by decide) fun A' c' => ?_)
     | (refine z_front rfl 4 rfl ?_; refine o_append rfl tabOk zeroOk rfl rfl rfl rfl rfl rfl (by first | exact own_rds 0 rfl | exact own_rds 1 rfl | exact own_rds 2 rfl | exact own_rds 3 rfl | assumption) (by first | rfl | (simp; done)) (by first | rfl | (simp; done)) (by omega) (by omega) (by decide) fun A' c' => ?_)
     | (refine z_front rfl 5 rfl ?_; refine o_append rfl tabOk zeroOk rfl rfl rfl rfl rfl rfl (by first | exact own_rds 0 rfl | exact own_rds 1 rfl | exact own_rds 2 rfl | exact own_rds 3 rfl | assumption) (by first | rfl | (simp; done)) (by first | rfl | (simp; done)) (by omega) (by omega) (by decide) fun A' c' => ?_))
     | refine o_move rfl (by decide) ?_
     | refine o_assign rfl (by decide) ?_
     | refine o_nil rfl (by decide) ?_
     | refine o_extract rfl rfl (by decide) ?_
     | refine o_not rfl (by decide) ?_
     | refine o_field0 tabOk rfl rfl rfl rfl rfl (by decide) ?_
     | refine o_field tabOk rfl rfl rfl rfl rfl (by decide) ?_
     | refine o_conv tabOk rfl rfl rfl (by decide) ?_))
theorem own_c (n : Int) (m : Nat) (hm : (m : Int) = min (max n 0) 512) (fr : List Chunk) :
    Does Try.prog 39 [.int .i64 n] fr (fun _ : Option Addr × Nat => True) (fun x => .agg #[.slice x.1 (owL m).length x.2]) (fun x => own x.1 x.2 3 1 (owL m).length (il (owL m)) :: fr) := by
  intro w hw
  refine f_enter Try.func39 rfl Try.ntmps39 rfl hw ?_
  repeat' (first
   | ((refine z_isdst 2 ?_; refine o_alloca (e := 27) (vs := [.slice none 0 0]) rfl (by kernel_rfl) (by decide) fun g4 => ?_))
   | ((refine z_isdst 3 ?_; refine o_alloca (e := 27) (vs := [.slice none 0 0]) rfl (by kernel_rfl) (by decide) fun g5 => ?_))
   | (refine s_is ?_; first
   | (refine s_isw ?_; first
   | (refine s_isloop ?_; first
   | ((refine c_loop (X := Option Addr × Nat × Nat) (fun y => y.2.2 ≤ m) (fun y => [(2, .pointer (some ⟨g4, 0, none⟩)), (3, .pointer (some ⟨g5, 0, none⟩)), (7, .int .i64 (min (max n 0) 512)), (8, .int .i64 y.2.2)]) (fun y => cells g5 27 [.slice y.1 (owL y.2.2).length y.2.1] :: own y.1 y.2.1 3 1 (owL y.2.2).length (il (owL y.2.2)) :: cells g4 27 [.slice none 0 0] :: fr) (fun y => m - y.2.2) (none, 0, 0) (Nat.zero_le _) ⟨rfl, rfl, rfl, rfl, trivial⟩ (fun w h => by dsimp only; rw [show owL 0 = [] by unfold owL; rfl, il_nil]; exact ((h.nil 3 1).sel 3 [1, 0, 2] (by decide))) (fun y hk => ?_); obtain ⟨D, d, k⟩ := y; dsimp only at hk ⊢; refine hold ?_)))
   | refine c_seq ?_
   | refine c_block ?_
   | refine c_region ?_
   | refine c_mixed mixed (by kernel_rfl) ?_
   | refine c_skip ?_
   | refine c_ret ?_
   | refine c_exit ?_
   | (refine s_iscond ?_; first
   | (refine c_true rfl (by first | with_reducible rfl | with_reducible assumption | ((with_reducible refine decide_eq_true ?_); first | with_reducible rfl | with_reducible assumption | omega)) ?_)
   | (refine c_false rfl (by first | with_reducible rfl | with_reducible assumption | ((with_reducible refine decide_eq_false ?_); first | with_reducible assumption | omega)) ?_)
   | (refine c_true rfl (by first | (simp only [Bool.not_eq_true', decide_eq_false_iff_not]; omega) | (with_reducible assumption) | (rw [decide_eq_false] <;> (first | omega | with_reducible rfl)) | (rw [decide_eq_true] <;> (first | omega | with_reducible rfl)) | (simp; done) | (simp; omega)) ?_)
   | (refine c_false rfl (by first | (simp only [Bool.not_eq_false', decide_eq_true_eq]; omega) | (with_reducible assumption) | (rw [decide_eq_false] <;> (first | omega | with_reducible rfl)) | (rw [decide_eq_true] <;> (first | omega | with_reducible rfl)) | (simp; done) | (simp; omega)) ?_)
   | refine c_cond rfl (fun hc => ?_) (fun hc => ?_)
   | refine c_condb rfl (fun hc => ?_) (fun hc => ?_)))
   | refine x_then ?_
   | refine x_then_ret ?_
   | refine x_then_exit ?_
   | refine x_block _ ?_
   | refine x_block_ret _ ?_
   | refine x_block_exit _ ?_
   | refine x_block_past (by decide) ?_
   | refine z_tailm ?_)
   | (refine z_isnil ?_; first
   | refine z_list ?_
   | refine z_mixed ?_
   | refine z_mono0 ?_
   | refine z_mono1 (by decide) fun g => ?_
   | refine z_mono2 (by decide) (by decide) fun g g' => ?_
   | refine z_mixedx ?_
   | refine z_quiet ?_)
   | (refine z_isop ?_; first
   | (refine z_isbin ?_; first
   | (refine z_isb .add ?_; first
   | refine o_add rfl rfl (by omega) (by omega) (by decide) ?_
   | refine o_addw rfl rfl (by decide) ?_)
   | (refine z_isb .lss ?_; first
   | refine o_lt rfl rfl (by decide) ?_))
   | (refine z_isload ?_; first
   | (refine z_ld1 tabOk rfl rfl ?_; first
   | refine o_loadm tabOk rfl rfl rfl (by repeat' (first | exact List.mem_cons_self | apply List.mem_cons_of_mem)) (by first | exact (by rw [il_at _ (by omega), hvv]) | exact il_at _ (by omega) | rfl | rfl) (by decide) ?_
   | refine o_loads tabOk (by first | exact own_rds 0 rfl | exact own_rds 1 rfl | exact own_rds 2 rfl | exact own_rds 3 rfl | assumption) rfl rfl rfl (by first | exact (by rw [il_at _ (by omega), hvv]) | exact il_at _ (by omega) | rfl | rfl) (by decide) ?_)
   | (refine z_ldw tabOk rfl rfl ?_; first
   | (refine o_loadwm tabOk rfl rfl rfl (by repeat' (first | exact List.mem_cons_self | apply List.mem_cons_of_mem)) (by first | rfl | exact il_len _ | (simp only [il_len]; done) | rfl) (by decide) ?_)))
   | (refine z_isstore ?_; first
   | (refine z_stw rfl ?_; first
   | ((refine z_sti 0 rfl rfl ?_; refine o_storeb0 rfl tabOk rfl rfl rfl (by first | rfl | exact il_len _ | (simp only [il_len]; done) | rfl) (by first | rfl) (by first | rfl | exact il_len _ | (simp only [il_len]; done) | rfl) ?_))
   | ((refine z_sti 1 rfl rfl ?_; refine o_storeb1 rfl tabOk rfl rfl rfl (by first | rfl | exact il_len _ | (simp only [il_len]; done) | rfl) (by first | rfl) (by first | rfl | exact il_len _ | (simp only [il_len]; done) | rfl) ?_))
   | ((refine z_sti 2 rfl rfl ?_; refine o_storeb2 rfl tabOk rfl rfl rfl (by first | rfl | exact il_len _ | (simp only [il_len]; done) | rfl) (by first | rfl) (by first | rfl | exact il_len _ | (simp only [il_len]; done) | rfl) ?_))
   | ((refine z_sti 3 rfl rfl ?_; refine o_storeb3 rfl tabOk rfl rfl rfl (by first | rfl | exact il_len _ | (simp only [il_len]; done) | rfl) (by first | rfl) (by first | rfl | exact il_len _ | (simp only [il_len]; done) | rfl) ?_))
   | ((refine z_sti 4 rfl rfl ?_; refine o_storeb4 rfl tabOk rfl rfl rfl (by first | rfl | exact il_len _ | (simp only [il_len]; done) | rfl) (by first | rfl) (by first | rfl | exact il_len _ | (simp only [il_len]; done) | rfl) ?_))
   | ((refine z_sti 5 rfl rfl ?_; refine o_storeb5 rfl tabOk rfl rfl rfl (by first | rfl | exact il_len _ | (simp only [il_len]; done) | rfl) (by first | rfl) (by first | rfl | exact il_len _ | (simp only [il_len]; done) | rfl) ?_))
   | ((refine z_sti 6 rfl rfl ?_; refine o_storeb6 rfl tabOk rfl rfl rfl (by first | rfl | exact il_len _ | (simp only [il_len]; done) | rfl) (by first | rfl) (by first | rfl | exact il_len _ | (simp only [il_len]; done) | rfl) ?_)))
   | (refine z_st1 rfl rfl ?_; first
   | refine o_store rfl tabOk rfl rfl rfl rfl rfl (by first | exact (by rw [il_at _ (by omega), hvv]) | exact il_at _ (by omega) | rfl | rfl) (by first | rfl) ?_
   | ((refine z_sti 1 rfl rfl ?_; refine o_store1 rfl tabOk rfl rfl rfl rfl rfl (by first | exact (by rw [il_at _ (by omega), hvv]) | exact il_at _ (by omega) | rfl | rfl) (by first | rfl) ?_))
   | ((refine z_sti 2 rfl rfl ?_; refine o_store2 rfl tabOk rfl rfl rfl rfl rfl (by first | exact (by rw [il_at _ (by omega), hvv]) | exact il_at _ (by omega) | rfl | rfl) (by first | rfl) ?_))
   | ((refine z_sti 3 rfl rfl ?_; refine o_store3 rfl tabOk rfl rfl rfl rfl rfl (by first | exact (by rw [il_at _ (by omega), hvv]) | exact il_at _ (by omega) | rfl | rfl) (by first | rfl) ?_))
   | ((refine z_sti 4 rfl rfl ?_; refine o_store4 rfl tabOk rfl rfl rfl rfl rfl (by first | exact (by rw [il_at _ (by omega), hvv]) | exact il_at _ (by omega) | rfl | rfl) (by first | rfl) ?_))
   | ((refine z_sti 5 rfl rfl ?_; refine o_store5 rfl tabOk rfl rfl rfl rfl rfl (by first | exact (by rw [il_at _ (by omega), hvv]) | exact il_at _ (by omega) | rfl | rfl) (by first | rfl) ?_))
   | ((refine z_sti 6 rfl rfl ?_; refine o_store6 rfl tabOk rfl rfl rfl rfl rfl (by first | exact (by rw [il_at _ (by omega), hvv]) | exact il_at _ (by omega) | rfl | rfl) (by first | rfl) ?_))))
   | (refine z_ismakes ?_; first
   | refine o_make1 rfl tabOk zeroOk rfl rfl rfl rfl rfl (by decide) fun g => ?_)
   | (refine z_isbi ?_; first
   | refine o_len tabOk rfl rfl (by decide) ?_
   | refine o_min rfl rfl (by decide) ?_
   | refine o_max rfl rfl (by decide) ?_
   | (refine o_append0 rfl tabOk zeroOk rfl rfl rfl rfl rfl rfl (by first | exact own_rds 0 rfl | exact own_rds 1 rfl | exact own_rds 2 rfl | exact own_rds 3 rfl | assumption) (by first | rfl | (simp; done)) (by first | rfl | (simp; done)) (by omega) (by omega) (by decide) fun A' c' => ?_)
   | (refine o_append rfl tabOk zeroOk rfl rfl rfl rfl rfl rfl (by first | exact own_rds 0 rfl | exact own_rds 1 rfl | exact own_rds 2 rfl | exact own_rds 3 rfl | assumption) (by first | rfl | (simp; done)) (by first | rfl | (simp; done)) (by omega) (by omega) (by decide) fun A' c' => ?_)
   | (refine z_front rfl 1 rfl ?_; refine o_append rfl tabOk zeroOk rfl rfl rfl rfl rfl rfl (by first | exact own_rds 0 rfl | exact own_rds 1 rfl | exact own_rds 2 rfl | exact own_rds 3 rfl | assumption) (by first | rfl | (simp; done)) (by first | rfl | (simp; done)) (by omega) (by omega) (by decide) fun A' c' => ?_)
   | (refine z_front rfl 2 rfl ?_; refine o_append rfl tabOk zeroOk rfl rfl rfl rfl rfl rfl (by first | exact own_rds 0 rfl | exact own_rds 1 rfl | exact own_rds 2 rfl | exact own_rds 3 rfl | assumption) (by first | rfl | (simp; done)) (by first | rfl | (simp; done)) (by omega) (by omega) (by decide) fun A' c' => ?_)
   | (refine z_front rfl 3 rfl ?_; refine o_append rfl tabOk zeroOk rfl rfl rfl rfl rfl rfl (by first | exact own_rds 0 rfl | exact own_rds 1 rfl | exact own_rds 2 rfl | exact own_rds 3 rfl | assumption) (by first | rfl | (simp; done)) (by first | rfl | (simp; done)) (by omega) (by omega) (by decide) fun A' c' => ?_)
   | (refine z_front rfl 4 rfl ?_; refine o_append rfl tabOk zeroOk rfl rfl rfl rfl rfl rfl (by first | exact own_rds 0 rfl | exact own_rds 1 rfl | exact own_rds 2 rfl | exact own_rds 3 rfl | assumption) (by first | rfl | (simp; done)) (by first | rfl | (simp; done)) (by omega) (by omega) (by decide) fun A' c' => ?_)
   | (refine z_front rfl 5 rfl ?_; refine o_append rfl tabOk zeroOk rfl rfl rfl rfl rfl rfl (by first | exact own_rds 0 rfl | exact own_rds 1 rfl | exact own_rds 2 rfl | exact own_rds 3 rfl | assumption) (by first | rfl | (simp; done)) (by first | rfl | (simp; done)) (by omega) (by omega) (by decide) fun A' c' => ?_))
   | refine o_move rfl (by decide) ?_
   | refine o_assign rfl (by decide) ?_
   | refine o_nil rfl (by decide) ?_
   | refine o_extract rfl rfl (by decide) ?_
   | refine o_not rfl (by decide) ?_
   | refine o_field0 tabOk rfl rfl rfl rfl rfl (by decide) ?_
   | refine o_field tabOk rfl rfl rfl rfl rfl (by decide) ?_
   | refine o_conv tabOk rfl rfl rfl (by decide) ?_))
  refine Hold.go ?_
  have hol := owL_len k
  by_cases hl : k < m
  · have hs := owL_succ k
    repeat' (first
     | ((refine z_isdst 2 ?_; refine o_alloca (e := 27) (vs := [.slice none 0 0]) rfl (by kernel_rfl) (by decide) fun g4 => ?_))
     | ((refine z_isdst 3 ?_; refine o_alloca (e := 27) (vs := [.slice none 0 0]) rfl (by kernel_rfl) (by decide) fun g5 => ?_))
     | (refine s_is ?_; first
     | (refine s_isagain ?_; first
     | (exact c_again (A', c', k + 1) (by dsimp only; omega) (by dsimp only; omega) ⟨rfl, rfl, rfl, rfl, trivial⟩ (fun w h => by dsimp only; rw [hs, il_add, List.length_append]; exact ((h.sel 4 [2, 0, 3, 1] (by decide)).mask [true, true, true, false]))))
     | (refine s_isw ?_; first
     | refine c_seq ?_
     | refine c_block ?_
     | refine c_region ?_
     | refine c_mixed mixed (by kernel_rfl) ?_
     | refine c_skip ?_
     | refine c_ret ?_
     | refine c_exit ?_
     | (refine s_iscond ?_; first
     | (refine c_true rfl (by first | with_reducible rfl | with_reducible assumption | ((with_reducible refine decide_eq_true ?_); first | with_reducible rfl | with_reducible assumption | omega)) ?_)
     | (refine c_false rfl (by first | with_reducible rfl | with_reducible assumption | ((with_reducible refine decide_eq_false ?_); first | with_reducible assumption | omega)) ?_)
     | (refine c_true rfl (by first | (simp only [Bool.not_eq_true', decide_eq_false_iff_not]; omega) | (with_reducible assumption) | (rw [decide_eq_false] <;> (first | omega | with_reducible rfl)) | (rw [decide_eq_true] <;> (first | omega | with_reducible rfl)) | (simp; done) | (simp; omega)) ?_)
     | (refine c_false rfl (by first | (simp only [Bool.not_eq_false', decide_eq_true_eq]; omega) | (with_reducible assumption) | (rw [decide_eq_false] <;> (first | omega | with_reducible rfl)) | (rw [decide_eq_true] <;> (first | omega | with_reducible rfl)) | (simp; done) | (simp; omega)) ?_)
     | refine c_cond rfl (fun hc => ?_) (fun hc => ?_)
     | refine c_condb rfl (fun hc => ?_) (fun hc => ?_)))
     | refine x_then ?_
     | refine x_then_ret ?_
     | refine x_then_exit ?_
     | refine x_block _ ?_
     | refine x_block_ret _ ?_
     | refine x_block_exit _ ?_
     | refine x_block_past (by decide) ?_
     | refine z_tailm ?_)
     | (refine z_isnil ?_; first
     | refine z_list ?_
     | refine z_mixed ?_
     | refine z_mono0 ?_
     | refine z_mono1 (by decide) fun g => ?_
     | refine z_mono2 (by decide) (by decide) fun g g' => ?_
     | refine z_mixedx ?_
     | refine z_quiet ?_)
     | (refine z_isop ?_; first
     | (refine z_isbin ?_; first
     | (refine z_isb .add ?_; first
     | refine o_add rfl rfl (by omega) (by omega) (by decide) ?_
     | refine o_addw rfl rfl (by decide) ?_)
     | (refine z_isb .lss ?_; first
     | refine o_lt rfl rfl (by decide) ?_))
     | (refine z_isload ?_; first
     | (refine z_ld1 tabOk rfl rfl ?_; first
     | refine o_loadm tabOk rfl rfl rfl (by repeat' (first | exact List.mem_cons_self | apply List.mem_cons_of_mem)) (by first | exact (by rw [il_at _ (by omega), hvv]) | exact il_at _ (by omega) | rfl | rfl) (by decide) ?_
     | refine o_loads tabOk (by first | exact own_rds 0 rfl | exact own_rds 1 rfl | exact own_rds 2 rfl | exact own_rds 3 rfl | assumption) rfl rfl rfl (by first | exact (by rw [il_at _ (by omega), hvv]) | exact il_at _ (by omega) | rfl | rfl) (by decide) ?_)
     | (refine z_ldw tabOk rfl rfl ?_; first
     | (refine o_loadwm tabOk rfl rfl rfl (by repeat' (first | exact List.mem_cons_self | apply List.mem_cons_of_mem)) (by first | rfl | exact il_len _ | (simp only [il_len]; done) | rfl) (by decide) ?_)))
     | (refine z_isstore ?_; first
     | (refine z_stw rfl ?_; first
     | ((refine z_sti 0 rfl rfl ?_; refine o_storeb0 rfl tabOk rfl rfl rfl (by first | rfl | exact il_len _ | (simp only [il_len]; done) | rfl) (by first | rfl) (by first | rfl | exact il_len _ | (simp only [il_len]; done) | rfl) ?_))
     | ((refine z_sti 1 rfl rfl ?_; refine o_storeb1 rfl tabOk rfl rfl rfl (by first | rfl | exact il_len _ | (simp only [il_len]; done) | rfl) (by first | rfl) (by first | rfl | exact il_len _ | (simp only [il_len]; done) | rfl) ?_))
     | ((refine z_sti 2 rfl rfl ?_; refine o_storeb2 rfl tabOk rfl rfl rfl (by first | rfl | exact il_len _ | (simp only [il_len]; done) | rfl) (by first | rfl) (by first | rfl | exact il_len _ | (simp only [il_len]; done) | rfl) ?_))
     | ((refine z_sti 3 rfl rfl ?_; refine o_storeb3 rfl tabOk rfl rfl rfl (by first | rfl | exact il_len _ | (simp only [il_len]; done) | rfl) (by first | rfl) (by first | rfl | exact il_len _ | (simp only [il_len]; done) | rfl) ?_))
     | ((refine z_sti 4 rfl rfl ?_; refine o_storeb4 rfl tabOk rfl rfl rfl (by first | rfl | exact il_len _ | (simp only [il_len]; done) | rfl) (by first | rfl) (by first | rfl | exact il_len _ | (simp only [il_len]; done) | rfl) ?_))
     | ((refine z_sti 5 rfl rfl ?_; refine o_storeb5 rfl tabOk rfl rfl rfl (by first | rfl | exact il_len _ | (simp only [il_len]; done) | rfl) (by first | rfl) (by first | rfl | exact il_len _ | (simp only [il_len]; done) | rfl) ?_))
     | ((refine z_sti 6 rfl rfl ?_; refine o_storeb6 rfl tabOk rfl rfl rfl (by first | rfl | exact il_len _ | (simp only [il_len]; done) | rfl) (by first | rfl) (by first | rfl | exact il_len _ | (simp only [il_len]; done) | rfl) ?_)))
     | (refine z_st1 rfl rfl ?_; first
     | refine o_store rfl tabOk rfl rfl rfl rfl rfl (by first | exact (by rw [il_at _ (by omega), hvv]) | exact il_at _ (by omega) | rfl | rfl) (by first | rfl) ?_
     | ((refine z_sti 1 rfl rfl ?_; refine o_store1 rfl tabOk rfl rfl rfl rfl rfl (by first | exact (by rw [il_at _ (by omega), hvv]) | exact il_at _ (by omega) | rfl | rfl) (by first | rfl) ?_))
     | ((refine z_sti 2 rfl rfl ?_; refine o_store2 rfl tabOk rfl rfl rfl rfl rfl (by first | exact (by rw [il_at _ (by omega), hvv]) | exact il_at _ (by omega) | rfl | rfl) (by first | rfl) ?_))
     | ((refine z_sti 3 rfl rfl ?_; refine o_store3 rfl tabOk rfl rfl rfl rfl rfl (by first | exact (by rw [il_at _ (by omega), hvv]) | exact il_at _ (by omega) | rfl | rfl) (by first | rfl) ?_))
     | ((refine z_sti 4 rfl rfl ?_; refine o_store4 rfl tabOk rfl rfl rfl rfl rfl (by first | exact (by rw [il_at _ (by omega), hvv]) | exact il_at _ (by omega) | rfl | rfl) (by first | rfl) ?_))
     | ((refine z_sti 5 rfl rfl ?_; refine o_store5 rfl tabOk rfl rfl rfl rfl rfl (by first | exact (by rw [il_at _ (by omega), hvv]) | exact il_at _ (by omega) | rfl | rfl) (by first | rfl) ?_))
     | ((refine z_sti 6 rfl rfl ?_; refine o_store6 rfl tabOk rfl rfl rfl rfl rfl (by first | exact (by rw [il_at _ (by omega), hvv]) | exact il_at _ (by omega) | rfl | rfl) (by first | rfl) ?_))))
     | (refine z_ismakes ?_; first
     | refine o_make1 rfl tabOk zeroOk rfl rfl rfl rfl rfl (by decide) fun g => ?_)
     | (refine z_isbi ?_; first
     | refine o_len tabOk rfl rfl (by decide) ?_
     | refine o_min rfl rfl (by decide) ?_
     | refine o_max rfl rfl (by decide) ?_
     | (refine o_append0 rfl tabOk zeroOk rfl rfl rfl rfl rfl rfl (by first | exact own_rds 0 rfl | exact own_rds 1 rfl | exact own_rds 2 rfl | exact own_rds 3 rfl | assumption) (by first | rfl | (simp; done)) (by first | rfl | (simp; done)) (by omega) (by omega) (by decide) fun A' c' => ?_)
     | (refine o_append rfl tabOk zeroOk rfl rfl rfl rfl rfl rfl (by first | exact own_rds 0 rfl | exact own_rds 1 rfl | exact own_rds 2 rfl | exact own_rds 3 rfl | assumption) (by first | rfl | (simp; done)) (by first | rfl | (simp; done)) (by omega) (by omega) (by decide) fun A' c' => ?_)
     | (refine z_front rfl 1 rfl ?_; refine o_append rfl tabOk zeroOk rfl rfl rfl rfl rfl rfl (by first | exact own_rds 0 rfl | exact own_rds 1 rfl | exact own_rds 2 rfl | exact own_rds 3 rfl | assumption) (by first | rfl | (simp; done)) (by first | rfl | (simp; done)) (by omega) (by omega) (by decide) fun A' c' => ?_)
     | (refine z_front rfl 2 rfl ?_; refine o_append rfl tabOk zeroOk rfl rfl rfl rfl rfl rfl (by first | exact own_rds 0 rfl | exact own_rds 1 rfl | exact own_rds 2 rfl | exact own_rds 3 rfl | assumption) (by first | rfl | (simp; done)) (by first | rfl | (simp; done)) (by omega) (by omega) (by decide) fun A' c' => ?_)
     | (refine z_front rfl 3 rfl ?_; refine o_append rfl tabOk zeroOk rfl rfl rfl rfl rfl rfl (by first | exact own_rds 0 rfl | exact own_rds 1 rfl | exact own_rds 2 rfl | exact own_rds 3 rfl | assumption) (by first | rfl | (simp; done)) (by first | rfl | (simp; done)) (by omega) (by omega) (by decide) fun A' c' => ?_)
     | (refine z_front rfl 4 rfl ?_; refine o_append rfl tabOk zeroOk rfl rfl rfl rfl rfl rfl (by first | exact own_rds 0 rfl | exact own_rds 1 rfl | exact own_rds 2 rfl | exact own_rds 3 rfl | assumption) (by first | rfl | (simp; done)) (by first | rfl | (simp; done)) (by omega) (by omega) (by decide) fun A' c' => ?_)
     | (refine z_front rfl 5 rfl ?_; refine o_append rfl tabOk zeroOk rfl rfl rfl rfl rfl rfl (by first | exact own_rds 0 rfl | exact own_rds 1 rfl | exact own_rds 2 rfl | exact own_rds 3 rfl | assumption) (by first | rfl | (simp; done)) (by first | rfl | (simp; done)) (by omega) (by omega) (by decide) fun A' c' => ?_))
     | refine o_move rfl (by decide) ?_
     | refine o_assign rfl (by decide) ?_
     | refine o_nil rfl (by decide) ?_
     | refine o_extract rfl rfl (by decide) ?_
     | refine o_not rfl (by decide) ?_
     | refine o_field0 tabOk rfl rfl rfl rfl rfl (by decide) ?_
     | refine o_field tabOk rfl rfl rfl rfl rfl (by decide) ?_
     | refine o_conv tabOk rfl rfl rfl (by decide) ?_))
  · obtain rfl : k = m := by omega
    repeat' (first
     | ((refine z_isdst 2 ?_; refine o_alloca (e := 27) (vs := [.slice none 0 0]) rfl (by kernel_rfl) (by decide) fun g4 => ?_))
     | ((refine z_isdst 3 ?_; refine o_alloca (e := 27) (vs := [.slice none 0 0]) rfl (by kernel_rfl) (by decide) fun g5 => ?_))
     | (refine s_is ?_; first
     | (refine s_isret ?_; first
     | exact f_r1 rfl (res_c tabOk rfl rfl rfl 2 rfl rfl) (D, d) trivial rfl (fun w h => ((h.sel 3 [1, 0, 2] (by decide)).mask [true, false, false])))
     | (refine s_isw ?_; first
     | refine c_seq ?_
     | refine c_block ?_
     | refine c_region ?_
     | refine c_mixed mixed (by kernel_rfl) ?_
     | refine c_skip ?_
     | refine c_ret ?_
     | refine c_exit ?_
     | (refine s_iscond ?_; first
     | (refine c_true rfl (by first | with_reducible rfl | with_reducible assumption | ((with_reducible refine decide_eq_true ?_); first | with_reducible rfl | with_reducible assumption | omega)) ?_)
     | (refine c_false rfl (by first | with_reducible rfl | with_reducible assumption | ((with_reducible refine decide_eq_false ?_); first | with_reducible assumption | omega)) ?_)
     | (refine c_true rfl (by first | (simp only [Bool.not_eq_true', decide_eq_false_iff_not]; omega) | (with_reducible assumption) | (rw [decide_eq_false] <;> (first | omega | with_reducible rfl)) | (rw [decide_eq_true] <;> (first | omega | with_reducible rfl)) | (simp; done) | (simp; omega)) ?_)
     | (refine c_false rfl (by first | (simp only [Bool.not_eq_false', decide_eq_true_eq]; omega) | (with_reducible assumption) | (rw [decide_eq_false] <;> (first | omega | with_reducible rfl)) | (rw [decide_eq_true] <;> (first | omega | with_reducible rfl)) | (simp; done) | (simp; omega)) ?_)
     | refine c_cond rfl (fun hc => ?_) (fun hc => ?_)
     | refine c_condb rfl (fun hc => ?_) (fun hc => ?_)))
     | refine x_then ?_
     | refine x_then_ret ?_
     | refine x_then_exit ?_
     | refine x_block _ ?_
     | refine x_block_ret _ ?_
     | refine x_block_exit _ ?_
     | refine x_block_past (by decide) ?_
     | refine z_tailm ?_)
     | (refine z_isnil ?_; first
     | refine z_list ?_
     | refine z_mixed ?_
     | refine z_mono0 ?_
     | refine z_mono1 (by decide) fun g => ?_
     | refine z_mono2 (by decide) (by decide) fun g g' => ?_
     | refine z_mixedx ?_
     | refine z_quiet ?_)
     | (refine z_isop ?_; first
     | (refine z_isbin ?_; first
     | (refine z_isb .add ?_; first
     | refine o_add rfl rfl (by omega) (by omega) (by decide) ?_
     | refine o_addw rfl rfl (by decide) ?_)
     | (refine z_isb .lss ?_; first
     | refine o_lt rfl rfl (by decide) ?_))
     | (refine z_isload ?_; first
     | (refine z_ld1 tabOk rfl rfl ?_; first
     | refine o_loadm tabOk rfl rfl rfl (by repeat' (first | exact List.mem_cons_self | apply List.mem_cons_of_mem)) (by first | exact (by rw [il_at _ (by omega), hvv]) | exact il_at _ (by omega) | rfl | rfl) (by decide) ?_
     | refine o_loads tabOk (by first | exact own_rds 0 rfl | exact own_rds 1 rfl | exact own_rds 2 rfl | exact own_rds 3 rfl | assumption) rfl rfl rfl (by first | exact (by rw [il_at _ (by omega), hvv]) | exact il_at _ (by omega) | rfl | rfl) (by decide) ?_)
     | (refine z_ldw tabOk rfl rfl ?_; first
     | (refine o_loadwm tabOk rfl rfl rfl (by repeat' (first | exact List.mem_cons_self | apply List.mem_cons_of_mem)) (by first | rfl | exact il_len _ | (simp only [il_len]; done) | rfl) (by decide) ?_)))
     | (refine z_isstore ?_; first
     | (refine z_stw rfl ?_; first
     | ((refine z_sti 0 rfl rfl ?_; refine o_storeb0 rfl tabOk rfl rfl rfl (by first | rfl | exact il_len _ | (simp only [il_len]; done) | rfl) (by first | rfl) (by first | rfl | exact il_len _ | (simp only [il_len]; done) | rfl) ?_))
     | ((refine z_sti 1 rfl rfl ?_; refine o_storeb1 rfl tabOk rfl rfl rfl (by first | rfl | exact il_len _ | (simp only [il_len]; done) | rfl) (by first | rfl) (by first | rfl | exact il_len _ | (simp only [il_len]; done) | rfl) ?_))
     | ((refine z_sti 2 rfl rfl ?_; refine o_storeb2 rfl tabOk rfl rfl rfl (by first | rfl | exact il_len _ | (simp only [il_len]; done) | rfl) (by first | rfl) (by first | rfl | exact il_len _ | (simp only [il_len]; done) | rfl) ?_))
     | ((refine z_sti 3 rfl rfl ?_; refine o_storeb3 rfl tabOk rfl rfl rfl (by first | rfl | exact il_len _ | (simp only [il_len]; done) | rfl) (by first | rfl) (by first | rfl | exact il_len _ | (simp only [il_len]; done) | rfl) ?_))
     | ((refine z_sti 4 rfl rfl ?_; refine o_storeb4 rfl tabOk rfl rfl rfl (by first | rfl | exact il_len _ | (simp only [il_len]; done) | rfl) (by first | rfl) (by first | rfl | exact il_len _ | (simp only [il_len]; done) | rfl) ?_))
     | ((refine z_sti 5 rfl rfl ?_; refine o_storeb5 rfl tabOk rfl rfl rfl (by first | rfl | exact il_len _ | (simp only [il_len]; done) | rfl) (by first | rfl) (by first | rfl | exact il_len _ | (simp only [il_len]; done) | rfl) ?_))
     | ((refine z_sti 6 rfl rfl ?_; refine o_storeb6 rfl tabOk rfl rfl rfl (by first | rfl | exact il_len _ | (simp only [il_len]; done) | rfl) (by first | rfl) (by first | rfl | exact il_len _ | (simp only [il_len]; done) | rfl) ?_)))
     | (refine z_st1 rfl rfl ?_; first
     | refine o_store rfl tabOk rfl rfl rfl rfl rfl (by first | exact (by rw [il_at _ (by omega), hvv]) | exact il_at _ (by omega) | rfl | rfl) (by first | rfl) ?_
     | ((refine z_sti 1 rfl rfl ?_; refine o_store1 rfl tabOk rfl rfl rfl rfl rfl (by first | exact (by rw [il_at _ (by omega), hvv]) | exact il_at _ (by omega) | rfl | rfl) (by first | rfl) ?_))
     | ((refine z_sti 2 rfl rfl ?_; refine o_store2 rfl tabOk rfl rfl rfl rfl rfl (by first | exact (by rw [il_at _ (by omega), hvv]) | exact il_at _ (by omega) | rfl | rfl) (by first | rfl) ?_))
     | ((refine z_sti 3 rfl rfl ?_; refine o_store3 rfl tabOk rfl rfl rfl rfl rfl (by first | exact (by rw [il_at _ (by omega), hvv]) | exact il_at _ (by omega) | rfl | rfl) (by first | rfl) ?_))
     | ((refine z_sti 4 rfl rfl ?_; refine o_store4 rfl tabOk rfl rfl rfl rfl rfl (by first | exact (by rw [il_at _ (by omega), hvv]) | exact il_at _ (by omega) | rfl | rfl) (by first | rfl) ?_))
     | ((refine z_sti 5 rfl rfl ?_; refine o_store5 rfl tabOk rfl rfl rfl rfl rfl (by first | exact (by rw [il_at _ (by omega), hvv]) | exact il_at _ (by omega) | rfl | rfl) (by first | rfl) ?_))
     | ((refine z_sti 6 rfl rfl ?_; refine o_store6 rfl tabOk rfl rfl rfl rfl rfl (by first | exact (by rw [il_at _ (by omega), hvv]) | exact il_at _ (by omega) | rfl | rfl) (by first | rfl) ?_))))
     | (refine z_ismakes ?_; first
     | refine o_make1 rfl tabOk zeroOk rfl rfl rfl rfl rfl (by decide) fun g => ?_)
     | (refine z_isbi ?_; first
     | refine o_len tabOk rfl rfl (by decide) ?_
     | refine o_min rfl rfl (by decide) ?_
     | refine o_max rfl rfl (by decide) ?_
     | (refine o_append0 rfl tabOk zeroOk rfl rfl rfl rfl rfl rfl (by first | exact own_rds 0 rfl | exact own_rds 1 rfl | exact own_rds 2 rfl | exact own_rds 3 rfl | assumption) (by first | rfl | (simp; done)) (by first | rfl | (simp; done)) (by omega) (by omega) (by decide) fun A' c' => ?_)
     | (refine o_append rfl tabOk zeroOk rfl rfl rfl rfl rfl rfl (by first | exact own_rds 0 rfl | exact own_rds 1 rfl | exact own_rds 2 rfl | exact own_rds 3 rfl | assumption) (by first | rfl | (simp; done)) (by first | rfl | (simp; done)) (by omega) (by omega) (by decide) fun A' c' => ?_)
     | (refine z_front rfl 1 rfl ?_; refine o_append rfl tabOk zeroOk rfl rfl rfl rfl rfl rfl (by first | exact own_rds 0 rfl | exact own_rds 1 rfl | exact own_rds 2 rfl | exact own_rds 3 rfl | assumption) (by first | rfl | (simp; done)) (by first | rfl | (simp; done)) (by omega) (by omega) (by decide) fun A' c' => ?_)
     | (refine z_front rfl 2 rfl ?_; refine o_append rfl tabOk zeroOk rfl rfl rfl rfl rfl rfl (by first | exact own_rds 0 rfl | exact own_rds 1 rfl | exact own_rds 2 rfl | exact own_rds 3 rfl | assumption) (by first | rfl | (simp; done)) (by first | rfl | (simp; done)) (by omega) (by omega) (by decide) fun A' c' => ?_)
     | (refine z_front rfl 3 rfl ?_; refine o_append rfl tabOk zeroOk rfl rfl rfl rfl rfl rfl (by first | exact own_rds 0 rfl | exact own_rds 1 rfl | exact own_rds 2 rfl | exact own_rds 3 rfl | assumption) (by first | rfl | (simp; done)) (by first | rfl | (simp; done)) (by omega) (by omega) (by decide) fun A' c' => ?_)
     | (refine z_front rfl 4 rfl ?_; refine o_append rfl tabOk zeroOk rfl rfl rfl rfl rfl rfl (by first | exact own_rds 0 rfl | exact own_rds 1 rfl | exact own_rds 2 rfl | exact own_rds 3 rfl | assumption) (by first | rfl | (simp; done)) (by first | rfl | (simp; done)) (by omega) (by omega) (by decide) fun A' c' => ?_)
     | (refine z_front rfl 5 rfl ?_; refine o_append rfl tabOk zeroOk rfl rfl rfl rfl rfl rfl (by first | exact own_rds 0 rfl | exact own_rds 1 rfl | exact own_rds 2 rfl | exact own_rds 3 rfl | assumption) (by first | rfl | (simp; done)) (by first | rfl | (simp; done)) (by omega) (by omega) (by decide) fun A' c' => ?_))
     | refine o_move rfl (by decide) ?_
     | refine o_assign rfl (by decide) ?_
     | refine o_nil rfl (by decide) ?_
     | refine o_extract rfl rfl (by decide) ?_
     | refine o_not rfl (by decide) ?_
     | refine o_field0 tabOk rfl rfl rfl rfl rfl (by decide) ?_
     | refine o_field tabOk rfl rfl rfl rfl rfl (by decide) ?_
     | refine o_conv tabOk rfl rfl rfl (by decide) ?_))
end Go.Proofs.Ytjjhlkjnjbagfaa
