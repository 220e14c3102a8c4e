/-
Span: a number is looked for; how many there are; one row.
-/
import Derived.Test.YtfegdehgnhomnaaSp
namespace Go.Proofs.Ytfegdehgnhomnaa
set_option linter.unusedVariables false
set_option linter.unusedSimpArgs false
open Eng
def cmpR (r : Rw) (n : Int) : Int := if r.2 ≤ n then -1 else if n < r.1 then 1 else 0
attribute [local irreducible] Eng.Hold Eng.Z Eng.S Eng.cells Eng.old Eng.own rc rcs at' hasB Sep lastTo push
theorem has1_p (r : Rw) (n : Int) : Pf Try.prog 40 [.agg (rcs r).toArray, .int .i64 n] (.int .i64 (cmpR r n)) := by
  intro w hw
  refine f_enter Try.func40 rfl Try.ntmps40 rfl hw ?_
  unfold cmpR
  by_cases h1 : r.2 ≤ n
  · rw [if_pos h1]
    repeat' (first
     | (refine s_is ?_; first
     | (refine s_isret ?_; first
     | exact p_r1 rfl (res_t rfl))
     | (refine s_isw ?_; first
     | refine c_seq ?_
     | refine c_block ?_
     | refine c_region ?_
     | refine c_ret ?_
     | (refine s_iscond ?_; first
     | (refine c_true rfl (by first | with_reducible rfl | with_reducible assumption | ((with_reducible refine decide_eq_true ?_); first | with_reducible rfl | with_reducible assumption | omega)) ?_)))
     | refine x_then_ret ?_
     | refine x_block_ret _ ?_)
     | (refine z_isnil ?_; first
     | refine z_list ?_)
     | (refine z_isop ?_; first
     | refine o_boxa (vs := rcs r) rfl rfl (by decide) fun g => ?_
     | (refine z_isbin ?_; first
     | (refine z_isb .leq ?_; first
     | refine o_le rfl rfl (by decide) ?_))
     | (refine z_isload ?_; first
     | (refine z_ld1 tabOk rfl rfl ?_; first
     | refine o_loadm tabOk rfl rfl rfl (by repeat' (first | exact List.mem_cons_self | apply List.mem_cons_of_mem)) (by first | exact rc_f _ (by omega) | exact rc_t _ (by omega) | exact rcs_f _ | exact rcs_t _ | rfl | rfl) (by decide) ?_))
     | refine o_move rfl (by decide) ?_
     | refine o_assign rfl (by decide) ?_
     | refine o_field0 tabOk rfl rfl rfl rfl rfl (by decide) ?_))
  · rw [if_neg h1]
    by_cases h2 : n < r.1
    · rw [if_pos h2]
      repeat' (first
       | (refine s_is ?_; first
       | (refine s_isret ?_; first
       | exact p_r1 rfl (res_t rfl))
       | (refine s_isw ?_; first
       | refine c_seq ?_
       | refine c_block ?_
       | refine c_region ?_
       | refine c_ret ?_
       | (refine s_iscond ?_; first
       | (refine c_true rfl (by first | with_reducible rfl | with_reducible assumption | ((with_reducible refine decide_eq_true ?_); first | with_reducible rfl | with_reducible assumption | omega)) ?_)
       | (refine c_false rfl (by first | with_reducible rfl | with_reducible assumption | ((with_reducible refine decide_eq_false ?_); first | with_reducible assumption | omega)) ?_)))
       | refine x_then_ret ?_
       | refine x_block_ret _ ?_)
       | (refine z_isnil ?_; first
       | refine z_list ?_)
       | (refine z_isop ?_; first
       | refine o_boxa (vs := rcs r) rfl rfl (by decide) fun g => ?_
       | (refine z_isbin ?_; first
       | (refine z_isb .leq ?_; first
       | refine o_le rfl rfl (by decide) ?_)
       | (refine z_isb .gtr ?_; first
       | refine o_gt rfl rfl (by decide) ?_))
       | (refine z_isload ?_; first
       | (refine z_ld1 tabOk rfl rfl ?_; first
       | refine o_loadm tabOk rfl rfl rfl (by repeat' (first | exact List.mem_cons_self | apply List.mem_cons_of_mem)) (by first | exact rc_f _ (by omega) | exact rc_t _ (by omega) | exact rcs_f _ | exact rcs_t _ | rfl | rfl) (by decide) ?_))
       | refine o_move rfl (by decide) ?_
       | refine o_assign rfl (by decide) ?_
       | refine o_field0 tabOk rfl rfl rfl rfl rfl (by decide) ?_))
    · rw [if_neg h2]
      repeat' (first
       | (refine s_is ?_; first
       | (refine s_isret ?_; first
       | exact p_r1 rfl (res_t rfl))
       | (refine s_isw ?_; first
       | refine c_seq ?_
       | refine c_block ?_
       | refine c_region ?_
       | refine c_skip ?_
       | refine c_ret ?_
       | (refine s_iscond ?_; first
       | (refine c_false rfl (by first | with_reducible rfl | with_reducible assumption | ((with_reducible refine decide_eq_false ?_); first | with_reducible assumption | omega)) ?_))))
       | (refine z_isnil ?_; first
       | refine z_list ?_)
       | (refine z_isop ?_; first
       | refine o_boxa (vs := rcs r) rfl rfl (by decide) fun g => ?_
       | (refine z_isbin ?_; first
       | (refine z_isb .leq ?_; first
       | refine o_le rfl rfl (by decide) ?_)
       | (refine z_isb .gtr ?_; first
       | refine o_gt rfl rfl (by decide) ?_))
       | (refine z_isload ?_; first
       | (refine z_ld1 tabOk rfl rfl ?_; first
       | refine o_loadm tabOk rfl rfl rfl (by repeat' (first | exact List.mem_cons_self | apply List.mem_cons_of_mem)) (by first | exact rc_f _ (by omega) | exact rc_t _ (by omega) | exact rcs_f _ | exact rcs_t _ | rfl | rfl) (by decide) ?_))
       | refine o_move rfl (by decide) ?_
       | refine o_assign rfl (by decide) ?_
       | refine o_field0 tabOk rfl rfl rfl rfl rfl (by decide) ?_))
theorem with1_p (a b : Bool) : Pf Try.prog 47 [.bool a, .bool b] (.bool (a || b)) := by
  intro w hw
  refine f_enter Try.func47 rfl Try.ntmps47 rfl hw ?_
  cases a with
  | true =>
    repeat' (first
     | (refine s_is ?_; first
     | (refine s_isret ?_; first
     | exact p_r1 rfl (res_t rfl))
     | (refine s_isw ?_; first
     | refine c_seq ?_
     | refine c_region ?_
     | refine c_ret ?_))
     | (refine z_isg0 ?_; first
     | (refine z_skip0 (by decide) rfl rfl (by first | with_reducible rfl | with_reducible assumption | ((with_reducible refine decide_eq_true ?_); first | with_reducible rfl | with_reducible assumption | omega)) ?_))
     | (refine z_isnil ?_; first
     | refine z_list ?_)
     | (refine z_isop ?_; first
     | (refine z_ispick ?_; first
     | (refine o_pick1 rfl (by first | with_reducible rfl | with_reducible assumption | ((with_reducible refine decide_eq_true ?_); first | with_reducible rfl | with_reducible assumption | omega)) rfl (by decide) ?_))
     | refine o_move rfl (by decide) ?_
     | refine o_assign rfl (by decide) ?_))
  | false =>
    repeat' (first
     | (refine s_is ?_; first
     | (refine s_isret ?_; first
     | (exact p_r1 rfl (res_t (by rw [Bool.false_or]; rfl))))
     | (refine s_isw ?_; first
     | refine c_seq ?_
     | refine c_region ?_
     | refine c_ret ?_))
     | (refine z_isg0 ?_; first
     | (refine z_want0 rfl rfl (by first | with_reducible rfl | with_reducible assumption | ((with_reducible refine decide_eq_false ?_); first | with_reducible assumption | omega)) ?_))
     | (refine z_isnil ?_; first
     | refine z_list ?_)
     | (refine z_isop ?_; first
     | (refine z_ispick ?_; first
     | (refine o_pick0 rfl (by first | with_reducible rfl | with_reducible assumption | ((with_reducible refine decide_eq_false ?_); first | with_reducible assumption | omega)) rfl (by decide) ?_))
     | refine o_move rfl (by decide) ?_
     | refine o_assign rfl (by decide) ?_))
theorem both1_p (a b : Bool) : Pf Try.prog 50 [.bool a, .bool b] (.bool (a && b)) := by
  intro w hw
  refine f_enter Try.func50 rfl Try.ntmps50 rfl hw ?_
  cases a with
  | true =>
    repeat' (first
     | (refine s_is ?_; first
     | (refine s_isret ?_; first
     | (exact p_r1 rfl (res_t (by rw [Bool.true_and]; rfl))))
     | (refine s_isw ?_; first
     | refine c_seq ?_
     | refine c_region ?_
     | refine c_ret ?_))
     | (refine z_isg1 ?_; first
     | (refine z_want1 rfl rfl (by first | with_reducible rfl | with_reducible assumption | ((with_reducible refine decide_eq_true ?_); first | with_reducible rfl | with_reducible assumption | omega)) ?_))
     | (refine z_isnil ?_; first
     | refine z_list ?_)
     | (refine z_isop ?_; first
     | (refine z_ispick ?_; first
     | (refine o_pick1 rfl (by first | with_reducible rfl | with_reducible assumption | ((with_reducible refine decide_eq_true ?_); first | with_reducible rfl | with_reducible assumption | omega)) rfl (by decide) ?_))
     | refine o_move rfl (by decide) ?_
     | refine o_assign rfl (by decide) ?_))
  | false =>
    repeat' (first
     | (refine s_is ?_; first
     | (refine s_isret ?_; first
     | exact p_r1 rfl (res_t rfl))
     | (refine s_isw ?_; first
     | refine c_seq ?_
     | refine c_region ?_
     | refine c_ret ?_))
     | (refine z_isg1 ?_; first
     | (refine z_skip1 (by decide) rfl rfl (by first | with_reducible rfl | with_reducible assumption | ((with_reducible refine decide_eq_false ?_); first | with_reducible assumption | omega)) ?_))
     | (refine z_isnil ?_; first
     | refine z_list ?_)
     | (refine z_isop ?_; first
     | (refine z_ispick ?_; first
     | (refine o_pick0 rfl (by first | with_reducible rfl | with_reducible assumption | ((with_reducible refine decide_eq_false ?_); first | with_reducible assumption | omega)) rfl (by decide) ?_))
     | refine o_move rfl (by decide) ?_
     | refine o_assign rfl (by decide) ?_))
theorem without1_p (a b : Bool) : Pf Try.prog 46 [.bool a, .bool b] (.bool (a && !b)) := by
  intro w hw
  refine f_enter Try.func46 rfl Try.ntmps46 rfl hw ?_
  cases a with
  | true =>
    repeat' (first
     | (refine s_is ?_; first
     | (refine s_isret ?_; first
     | (exact p_r1 rfl (res_t (by rw [Bool.true_and]; rfl))))
     | (refine s_isw ?_; first
     | refine c_seq ?_
     | refine c_region ?_
     | refine c_ret ?_))
     | (refine z_isg1 ?_; first
     | (refine z_want1 rfl rfl (by first | with_reducible rfl | with_reducible assumption | ((with_reducible refine decide_eq_true ?_); first | with_reducible rfl | with_reducible assumption | omega)) ?_))
     | (refine z_isnil ?_; first
     | refine z_list ?_)
     | (refine z_isop ?_; first
     | (refine z_ispick ?_; first
     | (refine o_pick1 rfl (by first | with_reducible rfl | with_reducible assumption | ((with_reducible refine decide_eq_true ?_); first | with_reducible rfl | with_reducible assumption | omega)) rfl (by decide) ?_))
     | refine o_move rfl (by decide) ?_
     | refine o_assign rfl (by decide) ?_
     | refine o_not rfl (by decide) ?_))
  | false =>
    repeat' (first
     | (refine s_is ?_; first
     | (refine s_isret ?_; first
     | exact p_r1 rfl (res_t rfl))
     | (refine s_isw ?_; first
     | refine c_seq ?_
     | refine c_region ?_
     | refine c_ret ?_))
     | (refine z_isg1 ?_; first
     | (refine z_skip1 (by decide) rfl rfl (by first | with_reducible rfl | with_reducible assumption | ((with_reducible refine decide_eq_false ?_); first | with_reducible assumption | omega)) ?_))
     | (refine z_isnil ?_; first
     | refine z_list ?_)
     | (refine z_isop ?_; first
     | (refine z_ispick ?_; first
     | (refine o_pick0 rfl (by first | with_reducible rfl | with_reducible assumption | ((with_reducible refine decide_eq_false ?_); first | with_reducible assumption | omega)) rfl (by decide) ?_))
     | refine o_move rfl (by decide) ?_
     | refine o_assign rfl (by decide) ?_))
attribute [local irreducible] cmpR
theorem bins_c (R : List Rw) (lo : Int) (hs : Sep lo R) (A : Option Addr) (c : Nat) (n : Int) (fr : List Chunk) (hrd : Rds fr A (rc R)) (hx : R.length ≤ 1000000) : Does Try.prog 39 [.slice A R.length c, .int .i64 n, .func (.func 40) #[] #[]] fr (fun i : Nat => hasB R n = true → i < R.length) (fun i => .tuple #[.int .i64 i, .bool (hasB R n)]) (fun _ => fr) := by
  intro w hw
  have hne := rc_ne hrd hw
  refine f_enter Try.func39 rfl Try.ntmps39 rfl hw ?_
  repeat' (first
   | (refine s_is ?_; first
   | (refine s_isw ?_; first
   | (refine s_isloop ?_; first
   | ((refine c_loop (X := Nat × Nat) (fun y => y.1 ≤ y.2 ∧ y.2 ≤ R.length ∧ (∀ k, k < y.1 → (at' R k).2 ≤ n) ∧ ∀ k, y.2 ≤ k → k < R.length → n < (at' R k).2) (fun y => [(0, .slice A R.length c), (1, .int .i64 n), (2, .func (.func 40) #[] #[]), (8, .int .i64 R.length), (9, .int .i64 y.1), (10, .int .i64 y.2)]) (fun _ => fr) (fun y => y.2 - y.1) (0, R.length) ⟨Nat.zero_le _, Nat.le_refl _, fun k h => absurd h (Nat.not_lt_zero _), fun k h1 h2 => by dsimp only at h1; omega⟩ ⟨rfl, rfl, rfl, rfl, rfl, rfl, trivial⟩ (fun w h => h) (fun y hy => ?_); obtain ⟨i, j⟩ := y; obtain ⟨hij, hj, h1, h2⟩ := hy; dsimp only at hij hj h1 h2 ⊢; refine hold ?_)))
   | refine c_seq ?_
   | refine c_block ?_
   | refine c_region ?_))
   | (refine z_isnil ?_; first
   | refine z_list ?_)
   | (refine z_isop ?_; first
   | (refine z_isbi ?_; first
   | refine o_len tabOk rfl rfl (by decide) ?_)
   | refine o_move rfl (by decide) ?_
   | refine o_assign rfl (by decide) ?_))
  refine Hold.go ?_
  by_cases hlt : i < j
  · obtain ⟨h, hh⟩ : ∃ h, h = (i + j) / 2 := ⟨_, rfl⟩
    have hhl : h < R.length := by omega
    have e1 : IntKind.u64.wrap ((i : Int) + (j : Int)) = (i : Int) + (j : Int) := mid_u (by omega) (by omega)
    have e2 : shrv .u64 ((i : Int) + (j : Int)) 1 = (h : Int) := by rw [mid_s, hh]
    have e3 : IntKind.i64.wrap (h : Int) = (h : Int) := mid_i (by omega) (by omega)
    by_cases hc : (at' R h).2 ≤ n
    · have hcm : cmpR (at' R h) n = -1 := by unfold cmpR; rw [if_pos hc]
      have h1' : ∀ k, k < h + 1 → (at' R k).2 ≤ n := fun k hk => by
        by_cases e : k = h
        · subst e; exact hc
        · have h3 := (sep_at hs k (by omega)).2.2 h (by omega) hhl
          have h4 := (sep_at hs h hhl).2.1
          omega
      repeat' (first
       | ((refine z_isfv ?_; refine o_callrf rfl rfl Try.func40 rfl rfl rfl ((has1_p (at' R h) n).frame _) (by decide) ?_))
       | (refine s_is ?_; first
       | (refine s_isagain ?_; first
       | (exact c_again (h + 1, j) ⟨by dsimp only; omega, hj, h1', h2⟩ (by dsimp only; omega) ⟨rfl, rfl, rfl, rfl, rfl, rfl, trivial⟩ (fun w h => h)))
       | (refine s_isw ?_; first
       | refine c_seq ?_
       | refine c_block ?_
       | refine c_region ?_
       | refine c_skip ?_
       | (refine s_iscond ?_; first
       | (refine c_true rfl (by first | with_reducible rfl | with_reducible assumption | ((with_reducible refine decide_eq_true ?_); first | with_reducible rfl | with_reducible assumption | omega)) ?_))))
       | (refine z_isnil ?_; first
       | refine z_list ?_)
       | (refine z_isop ?_; first
       | refine o_indexsn tabOk (hne (by omega)) rfl rfl rfl rfl (by omega) (by omega) (by decide) ?_
       | refine o_convi tabOk rfl rfl rfl (by first | exact e1 | exact e3) (by decide) ?_
       | refine o_shre (e2) rfl rfl (by omega) (by decide) ?_
       | (refine z_isbin ?_; first
       | (refine z_isb .add ?_; first
       | refine o_add rfl rfl (by omega) (by omega) (by decide) ?_)
       | (refine z_isb .lss ?_; first
       | refine o_lt rfl rfl (by decide) ?_))
       | (refine z_isload ?_; first
       | (refine o_loadsw tabOk (by first | exact hrd | exact Rds.cons _ hrd | exact Rds.cons _ (Rds.cons _ hrd) | exact Rds.cons _ (Rds.cons _ (Rds.cons _ hrd)) | exact own_rds 0 rfl | exact own_rds 1 rfl | exact own_rds 2 rfl | assumption) rfl rfl rfl (es := rcs (at' R h)) (rcs_len _) (by rw [rcs_len]; decide) (fun j u hu => by rw [Int.toNat_natCast]; exact rc_el R (by omega) j u hu) (by decide) ?_))
       | refine o_move rfl (by decide) ?_
       | refine o_assign rfl (by decide) ?_))
    · have hcm : 0 ≤ cmpR (at' R h) n := by
        unfold cmpR; rw [if_neg hc]; split <;> omega
      have h2' : ∀ k, h ≤ k → k < R.length → n < (at' R k).2 := fun k hk hkl => by
        by_cases e : k = h
        · subst e; omega
        · have h3 := (sep_at hs h hhl).2.2 k (by omega) hkl
          have h4 := (sep_at hs k hkl).2.1
          omega
      repeat' (first
       | ((refine z_isfv ?_; refine o_callrf rfl rfl Try.func40 rfl rfl rfl ((has1_p (at' R h) n).frame _) (by decide) ?_))
       | (refine s_is ?_; first
       | (refine s_isagain ?_; first
       | (exact c_again (i, h) ⟨by dsimp only; omega, by dsimp only; omega, h1, h2'⟩ (by dsimp only; omega) ⟨rfl, rfl, rfl, rfl, rfl, rfl, trivial⟩ (fun w h => h)))
       | (refine s_isw ?_; first
       | refine c_seq ?_
       | refine c_block ?_
       | refine c_region ?_
       | refine c_skip ?_
       | (refine s_iscond ?_; first
       | (refine c_true rfl (by first | with_reducible rfl | with_reducible assumption | ((with_reducible refine decide_eq_true ?_); first | with_reducible rfl | with_reducible assumption | omega)) ?_)
       | (refine c_false rfl (by first | with_reducible rfl | with_reducible assumption | ((with_reducible refine decide_eq_false ?_); first | with_reducible assumption | omega)) ?_))))
       | (refine z_isnil ?_; first
       | refine z_list ?_)
       | (refine z_isop ?_; first
       | refine o_indexsn tabOk (hne (by omega)) rfl rfl rfl rfl (by omega) (by omega) (by decide) ?_
       | refine o_convi tabOk rfl rfl rfl (by first | exact e1 | exact e3) (by decide) ?_
       | refine o_shre (e2) rfl rfl (by omega) (by decide) ?_
       | (refine z_isbin ?_; first
       | (refine z_isb .add ?_; first
       | refine o_add rfl rfl (by omega) (by omega) (by decide) ?_)
       | (refine z_isb .lss ?_; first
       | refine o_lt rfl rfl (by decide) ?_))
       | (refine z_isload ?_; first
       | (refine o_loadsw tabOk (by first | exact hrd | exact Rds.cons _ hrd | exact Rds.cons _ (Rds.cons _ hrd) | exact Rds.cons _ (Rds.cons _ (Rds.cons _ hrd)) | exact own_rds 0 rfl | exact own_rds 1 rfl | exact own_rds 2 rfl | assumption) rfl rfl rfl (es := rcs (at' R h)) (rcs_len _) (by rw [rcs_len]; decide) (fun j u hu => by rw [Int.toNat_natCast]; exact rc_el R (by omega) j u hu) (by decide) ?_))
       | refine o_move rfl (by decide) ?_
       | refine o_assign rfl (by decide) ?_))
  · obtain rfl : i = j := by omega
    have he := bs_end hs hj h1 h2
    by_cases hl : i < R.length
    · have ht := h2 i (Nat.le_refl _) hl
      obtain ⟨h, hh⟩ : ∃ h, h = i := ⟨_, rfl⟩
      subst hh
      by_cases hf : (at' R h).1 ≤ n
      · have hcm : cmpR (at' R h) n = 0 := by unfold cmpR; rw [if_neg (by omega), if_neg (by omega)]
        rw [he, decide_eq_true hl, decide_eq_true hf]
        repeat' (first
         | ((refine z_isfv ?_; refine o_callrf rfl rfl Try.func40 rfl rfl rfl ((has1_p (at' R h) n).frame _) (by decide) ?_))
         | (refine s_is ?_; first
         | (refine s_isret ?_; first
         | (exact f_r2 rfl (res_t rfl) (res_t rfl) h (fun _ => hl) (by rw [hcm]; rfl) (fun w h => h)))
         | (refine s_isw ?_; first
         | refine c_seq ?_
         | refine c_region ?_
         | refine c_ret ?_
         | refine c_exit ?_
         | (refine s_iscond ?_; first
         | (refine c_false rfl (by first | with_reducible rfl | with_reducible assumption | ((with_reducible refine decide_eq_false ?_); first | with_reducible assumption | omega)) ?_))))
         | (refine z_isg1 ?_; first
         | (refine z_want1 rfl rfl (by first | with_reducible rfl | with_reducible assumption | ((with_reducible refine decide_eq_true ?_); first | with_reducible rfl | with_reducible assumption | omega)) ?_))
         | (refine z_isnil ?_; first
         | refine z_list ?_)
         | (refine z_isop ?_; first
         | refine o_indexsn tabOk (hne (by omega)) rfl rfl rfl rfl (by omega) (by omega) (by decide) ?_
         | (refine z_isbin ?_; first
         | (refine z_isb .eql ?_; first
         | refine o_eq rfl rfl (by decide) ?_)
         | (refine z_isb .lss ?_; first
         | refine o_lt rfl rfl (by decide) ?_))
         | (refine z_isload ?_; first
         | (refine o_loadsw tabOk (by first | exact hrd | exact Rds.cons _ hrd | exact Rds.cons _ (Rds.cons _ hrd) | exact Rds.cons _ (Rds.cons _ (Rds.cons _ hrd)) | exact own_rds 0 rfl | exact own_rds 1 rfl | exact own_rds 2 rfl | assumption) rfl rfl rfl (es := rcs (at' R h)) (rcs_len _) (by rw [rcs_len]; decide) (fun j u hu => by rw [Int.toNat_natCast]; exact rc_el R (by omega) j u hu) (by decide) ?_))
         | (refine z_ispick ?_; first
         | (refine o_pick1 rfl (by first | with_reducible rfl | with_reducible assumption | ((with_reducible refine decide_eq_true ?_); first | with_reducible rfl | with_reducible assumption | omega)) rfl (by decide) ?_))
         | refine o_move rfl (by decide) ?_
         | refine o_assign rfl (by decide) ?_))
      · have hcm : cmpR (at' R h) n = 1 := by unfold cmpR; rw [if_neg (by omega), if_pos (by omega)]
        rw [he, decide_eq_true hl, decide_eq_false hf]
        repeat' (first
         | ((refine z_isfv ?_; refine o_callrf rfl rfl Try.func40 rfl rfl rfl ((has1_p (at' R h) n).frame _) (by decide) ?_))
         | (refine s_is ?_; first
         | (refine s_isret ?_; first
         | (exact f_r2 rfl (res_t rfl) (res_t rfl) h (fun _ => hl) (by rw [hcm]; rfl) (fun w h => h)))
         | (refine s_isw ?_; first
         | refine c_seq ?_
         | refine c_region ?_
         | refine c_ret ?_
         | refine c_exit ?_
         | (refine s_iscond ?_; first
         | (refine c_false rfl (by first | with_reducible rfl | with_reducible assumption | ((with_reducible refine decide_eq_false ?_); first | with_reducible assumption | omega)) ?_))))
         | (refine z_isg1 ?_; first
         | (refine z_want1 rfl rfl (by first | with_reducible rfl | with_reducible assumption | ((with_reducible refine decide_eq_true ?_); first | with_reducible rfl | with_reducible assumption | omega)) ?_))
         | (refine z_isnil ?_; first
         | refine z_list ?_)
         | (refine z_isop ?_; first
         | refine o_indexsn tabOk (hne (by omega)) rfl rfl rfl rfl (by omega) (by omega) (by decide) ?_
         | (refine z_isbin ?_; first
         | (refine z_isb .eql ?_; first
         | refine o_eq rfl rfl (by decide) ?_)
         | (refine z_isb .lss ?_; first
         | refine o_lt rfl rfl (by decide) ?_))
         | (refine z_isload ?_; first
         | (refine o_loadsw tabOk (by first | exact hrd | exact Rds.cons _ hrd | exact Rds.cons _ (Rds.cons _ hrd) | exact Rds.cons _ (Rds.cons _ (Rds.cons _ hrd)) | exact own_rds 0 rfl | exact own_rds 1 rfl | exact own_rds 2 rfl | assumption) rfl rfl rfl (es := rcs (at' R h)) (rcs_len _) (by rw [rcs_len]; decide) (fun j u hu => by rw [Int.toNat_natCast]; exact rc_el R (by omega) j u hu) (by decide) ?_))
         | (refine z_ispick ?_; first
         | (refine o_pick1 rfl (by first | with_reducible rfl | with_reducible assumption | ((with_reducible refine decide_eq_true ?_); first | with_reducible rfl | with_reducible assumption | omega)) rfl (by decide) ?_))
         | refine o_move rfl (by decide) ?_
         | refine o_assign rfl (by decide) ?_))
    · rw [he, decide_eq_false hl]
      repeat' (first
       | (refine s_is ?_; first
       | (refine s_isret ?_; first
       | exact f_r2 rfl (res_t rfl) (res_t rfl) i (fun h => by simp at h) rfl (fun w h => h))
       | (refine s_isw ?_; first
       | refine c_seq ?_
       | refine c_region ?_
       | refine c_ret ?_
       | refine c_exit ?_
       | (refine s_iscond ?_; first
       | (refine c_false rfl (by first | with_reducible rfl | with_reducible assumption | ((with_reducible refine decide_eq_false ?_); first | with_reducible assumption | omega)) ?_))))
       | (refine z_isg1 ?_; first
       | (refine z_skip1 (by decide) rfl rfl (by first | with_reducible rfl | with_reducible assumption | ((with_reducible refine decide_eq_false ?_); first | with_reducible assumption | omega)) ?_))
       | (refine z_isnil ?_; first
       | refine z_list ?_)
       | (refine z_isop ?_; first
       | (refine z_isbin ?_; first
       | (refine z_isb .lss ?_; first
       | refine o_lt rfl rfl (by decide) ?_))
       | (refine z_ispick ?_; first
       | (refine o_pick0 rfl (by first | with_reducible rfl | with_reducible assumption | ((with_reducible refine decide_eq_false ?_); first | with_reducible assumption | omega)) rfl (by decide) ?_))
       | refine o_move rfl (by decide) ?_
       | refine o_assign rfl (by decide) ?_))
end Go.Proofs.Ytfegdehgnhomnaa
