/-
Span: the document's sets: a row, laid together, all, the rows.
-/
import Derived.Test.YtfegdehgnhomnaaSpA
namespace Go.Proofs.Ytfegdehgnhomnaa
set_option linter.unusedVariables false
set_option linter.unusedSimpArgs false
open Eng
/-- The cells of the document's set. -/
def bs (s : Nat → Bool) : List Value := (List.range 1024).map fun i => .bool (s i)
theorem bs_len (s : Nat → Bool) : (bs s).length = 1024 := by simp [bs]
theorem bs_one (s : Nat → Bool) : (bs s).all (·.oneCell') = true := by
  rw [List.all_eq_true]
  intro v hv
  obtain ⟨i, _, rfl⟩ := List.mem_map.1 hv
  rfl
theorem bs_at (s : Nat → Bool) {i : Nat} (h : i < 1024) : (bs s)[i]? = some (.bool (s i)) := by unfold bs; simp [h]
theorem bs_atk (s : Nat → Bool) {i : Nat} (h : i < 1024) : (bs s)[((i : Int)).toNat]? = some (.bool (s i)) := by rw [Int.toNat_natCast]; exact bs_at s h
theorem bs_congr {s t : Nat → Bool} (h : ∀ j, j < 1024 → s j = t j) : bs s = bs t := by
  unfold bs
  exact List.map_congr_left fun i hi => by rw [h i (List.mem_range.1 hi)]
/-- What is told of the first n numbers. -/
def pt (v : Nat → Bool) (n : Nat) : Nat → Bool := fun j => decide (j < n) && v j
theorem pt_0 (v : Nat → Bool) : bs (pt v 0) = bs (fun _ => false) := bs_congr fun j _ => by simp [pt]
theorem pt_end (v : Nat → Bool) : bs (pt v 1024) = bs v := bs_congr fun j hj => by simp [pt, hj]
theorem pt_set (v : Nat → Bool) (n : Nat) {b : Bool} (hb : b = v n) (hn : n < 1024) : (bs (pt v n)).set ((n : Int)).toNat (.bool b) = bs (pt v (n + 1)) := by
  rw [Int.toNat_natCast, hb]
  apply List.ext_getElem?
  intro j
  rw [List.getElem?_set]
  by_cases hj : j < 1024
  · by_cases e : n = j
    · subst e
      rw [if_pos rfl, if_pos (by rw [bs_len]; exact hn), bs_at _ hn]
      unfold pt
      rw [decide_eq_true (Nat.lt_succ_self n)]
      rfl
    · rw [if_neg e, bs_at _ hj, bs_at _ hj]
      unfold pt
      by_cases c : j < n
      · rw [decide_eq_true c, decide_eq_true (show j < n + 1 by omega)]
      · rw [decide_eq_false c, decide_eq_false (show ¬ j < n + 1 by omega)]
  · by_cases e : n = j
    · omega
    · rw [if_neg e, List.getElem?_eq_none (by rw [bs_len]; omega), List.getElem?_eq_none (by rw [bs_len]; omega)]
/-- A row as a set. -/
def ofS (f t : Int) : Nat → Bool := fun j => decide (f ≤ j) && decide ((j : Int) < t)
/-- Two sets laid together. -/
def layB (k : Int) (a b : Bool) : Bool := if k = 0 then a || b else if k = 1 then a && !b else a && b
def layS (k : Int) (a b : Nat → Bool) : Nat → Bool := fun j => layB k (a j) (b j)
attribute [local irreducible] Eng.Hold Eng.Z Eng.S Eng.cells Eng.old Eng.own rc rcs at' hasB Sep lastTo push
attribute [local irreducible] cmpR lenN ofR en mg cu ilS rg nm bs pt al rr
set_option maxHeartbeats 4000000 in
theorem rof_p (f t : Int) : Pf Try.prog 10 [.int .i64 f, .int .i64 t] (.agg (bs (ofS f t)).toArray) := by
  intro w hw
  refine f_enter Try.func10 rfl Try.ntmps10 rfl hw ?_
  repeat' (first
   | (refine s_is ?_; first
   | (refine s_isw ?_; first
   | (refine s_isloop ?_; first
   | ((rename_i g4; refine c_loop (X := Nat) (fun k => k ≤ 1024) (fun k => [(0, .int .i64 f), (1, .int .i64 t), (4, .pointer (some ⟨g4, 0, none⟩)), (5, .pointer (some ⟨g, 0, none⟩)), (6, .int .i64 k)]) (fun k => [cells g 36 (bs (pt (ofS f t) k)), cells g4 36 (bs (fun _ => false))]) (fun k => 1024 - k) 0 (Nat.zero_le _) ⟨rfl, rfl, rfl, rfl, rfl, trivial⟩ (fun w h => by rw [pt_0]; exact h) (fun k hk => ?_); refine hold ?_)))
   | refine c_seq ?_
   | refine c_block ?_
   | refine c_region ?_))
   | (refine z_isnil ?_; first
   | refine z_list ?_)
   | (refine z_isop ?_; first
   | refine o_alloca (e := 36) (vs := bs (fun _ => false)) rfl (by kernel_rfl) (by decide) fun g => ?_
   | refine o_build0 (t := 36) (v := .agg (bs (fun _ => false)).toArray) (fun _ => by kernel_rfl) (by decide) ?_
   | (refine z_isstore ?_; first
   | (refine z_stw rfl ?_; first
   | ((refine z_sti 0 rfl rfl ?_; refine o_storeb0 rfl tabOk rfl rfl rfl (by first | exact bs_len _ | rfl | (simp only [bs_len]; done) | rfl) (by first | exact bs_one _ | rfl | rfl) (by first | exact bs_len _ | rfl | (simp only [bs_len]; done) | rfl) ?_))))
   | refine o_assign rfl (by decide) ?_))
  refine Hold.go ?_
  by_cases hl : k < 1024
  · by_cases h1 : f ≤ (k : Int)
    · have hv : decide ((k : Int) < t) = ofS f t k := by unfold ofS; rw [decide_eq_true h1]; rfl
      repeat' (first
       | (refine s_is ?_; first
       | (refine s_isagain ?_; first
       | exact c_again (k + 1) (by omega) (by omega) ⟨rfl, rfl, rfl, rfl, rfl, trivial⟩ (fun w h => h))
       | (refine s_isw ?_; first
       | refine c_seq ?_
       | refine c_block ?_
       | refine c_region ?_
       | refine c_skip ?_
       | (refine s_iscond ?_; first
       | (refine c_true rfl (by first | with_reducible rfl | with_reducible assumption | ((with_reducible refine decide_eq_true ?_); first | with_reducible rfl | with_reducible assumption | omega)) ?_))))
       | (refine z_isg1 ?_; first
       | (refine z_want1 rfl rfl (by first | with_reducible rfl | with_reducible assumption | ((with_reducible refine decide_eq_true ?_); first | with_reducible rfl | with_reducible assumption | omega)) ?_))
       | (refine z_isnil ?_; first
       | refine z_list ?_)
       | (refine z_isop ?_; first
       | (refine z_isbin ?_; first
       | (refine z_isb .add ?_; first
       | refine o_add rfl rfl (by omega) (by omega) (by decide) ?_)
       | (refine z_isb .lss ?_; first
       | refine o_lt rfl rfl (by decide) ?_)
       | (refine z_isb .geq ?_; first
       | refine o_ge rfl rfl (by decide) ?_))
       | (refine z_isstore ?_; first
       | (refine z_st1 rfl rfl ?_; first
       | refine o_store rfl tabOk rfl rfl rfl rfl rfl (by first | exact bs_atk _ (by omega) | rfl | rfl) (by first | exact pt_set _ _ (by first | rfl | assumption) (by omega) | rfl | rfl) ?_))
       | (refine z_ispick ?_; first
       | (refine o_pick1 rfl (by first | with_reducible rfl | with_reducible assumption | ((with_reducible refine decide_eq_true ?_); first | with_reducible rfl | with_reducible assumption | omega)) rfl (by decide) ?_))
       | (refine z_isix ?_; first
       | refine o_index0 tabOk rfl rfl rfl rfl (by omega) (by omega) (by decide) ?_)
       | refine o_move rfl (by decide) ?_
       | refine o_assign rfl (by decide) ?_))
    · have hv : false = ofS f t k := by unfold ofS; rw [decide_eq_false h1]; rfl
      repeat' (first
       | (refine s_is ?_; first
       | (refine s_isagain ?_; first
       | exact c_again (k + 1) (by omega) (by omega) ⟨rfl, rfl, rfl, rfl, rfl, trivial⟩ (fun w h => h))
       | (refine s_isw ?_; first
       | refine c_seq ?_
       | refine c_block ?_
       | refine c_region ?_
       | refine c_skip ?_
       | (refine s_iscond ?_; first
       | (refine c_true rfl (by first | with_reducible rfl | with_reducible assumption | ((with_reducible refine decide_eq_true ?_); first | with_reducible rfl | with_reducible assumption | omega)) ?_))))
       | (refine z_isg1 ?_; first
       | (refine z_skip1 (by decide) rfl rfl (by first | with_reducible rfl | with_reducible assumption | ((with_reducible refine decide_eq_false ?_); first | with_reducible assumption | omega)) ?_))
       | (refine z_isnil ?_; first
       | refine z_list ?_)
       | (refine z_isop ?_; first
       | (refine z_isbin ?_; first
       | (refine z_isb .add ?_; first
       | refine o_add rfl rfl (by omega) (by omega) (by decide) ?_)
       | (refine z_isb .lss ?_; first
       | refine o_lt rfl rfl (by decide) ?_)
       | (refine z_isb .geq ?_; first
       | refine o_ge rfl rfl (by decide) ?_))
       | (refine z_isstore ?_; first
       | (refine z_st1 rfl rfl ?_; first
       | refine o_store rfl tabOk rfl rfl rfl rfl rfl (by first | exact bs_atk _ (by omega) | rfl | rfl) (by first | exact pt_set _ _ (by first | rfl | assumption) (by omega) | rfl | rfl) ?_))
       | (refine z_ispick ?_; first
       | (refine o_pick0 rfl (by first | with_reducible rfl | with_reducible assumption | ((with_reducible refine decide_eq_false ?_); first | with_reducible assumption | omega)) rfl (by decide) ?_))
       | (refine z_isix ?_; first
       | refine o_index0 tabOk rfl rfl rfl rfl (by omega) (by omega) (by decide) ?_)
       | refine o_move rfl (by decide) ?_
       | refine o_assign rfl (by decide) ?_))
  · obtain rfl : k = 1024 := by omega
    rw [pt_end]
    repeat' (first
     | (refine s_is ?_; first
     | (refine s_isret ?_; first
     | exact p_r1 rfl (res_c tabOk rfl rfl rfl 1 rfl (bs_len _)))
     | (refine s_isw ?_; first
     | refine c_seq ?_
     | refine c_region ?_
     | refine c_ret ?_
     | refine c_exit ?_
     | (refine s_iscond ?_; first
     | (refine c_false rfl (by first | with_reducible rfl | with_reducible assumption | ((with_reducible refine decide_eq_false ?_); first | with_reducible assumption | omega)) ?_))))
     | (refine z_isnil ?_; first
     | refine z_list ?_)
     | (refine z_isop ?_; first
     | (refine z_isbin ?_; first
     | (refine z_isb .lss ?_; first
     | refine o_lt rfl rfl (by decide) ?_))
     | (refine z_isload ?_; first
     | (refine z_ldw tabOk rfl rfl ?_; first
     | (refine o_loadwm tabOk rfl rfl rfl (by repeat' (first | exact List.mem_cons_self | apply List.mem_cons_of_mem)) (by first | exact bs_len _ | rfl | (simp only [bs_len]; done) | rfl) (by decide) ?_)))
     | (refine z_isstore ?_; first
     | (refine z_stw rfl ?_; first
     | ((refine z_sti 1 rfl rfl ?_; refine o_storeb1 rfl tabOk rfl rfl rfl (by first | exact bs_len _ | rfl | (simp only [bs_len]; done) | rfl) (by first | exact bs_one _ | rfl | rfl) (by first | exact bs_len _ | rfl | (simp only [bs_len]; done) | rfl) ?_))))
     | refine o_move rfl (by decide) ?_))
set_option maxHeartbeats 4000000 in
theorem rlay_p (kind : Int) (a b : Nat → Bool) : Pf Try.prog 43 [.int .i64 kind, .agg (bs a).toArray, .agg (bs b).toArray] (.agg (bs (layS kind a b)).toArray) := by
  intro w hw
  refine f_enter Try.func43 rfl Try.ntmps43 rfl hw ?_
  repeat' (first
   | (refine s_is ?_; first
   | (refine s_isw ?_; first
   | (refine s_isloop ?_; first
   | ((rename_i g4; refine c_loop (X := Nat) (fun k => k ≤ 1024) (fun k => [(0, .int .i64 kind), (4, .pointer (some ⟨ga, 0, none⟩)), (5, .pointer (some ⟨gb, 0, none⟩)), (6, .pointer (some ⟨g4, 0, none⟩)), (7, .pointer (some ⟨g, 0, none⟩)), (8, .int .i64 k)]) (fun k => [cells g 36 (bs (pt (layS kind a b) k)), cells g4 36 (bs (fun _ => false)), cells gb 36 (bs b), cells ga 36 (bs a)]) (fun k => 1024 - k) 0 (Nat.zero_le _) ⟨rfl, rfl, rfl, rfl, rfl, rfl, trivial⟩ (fun w h => by rw [pt_0]; exact h) (fun k hk => ?_); refine hold ?_)))
   | refine c_seq ?_
   | refine c_block ?_
   | refine c_region ?_))
   | (refine z_isnil ?_; first
   | refine z_list ?_)
   | (refine z_isop ?_; first
   | refine o_alloca (e := 36) (vs := bs (fun _ => false)) rfl (by kernel_rfl) (by decide) fun g => ?_
   | refine o_build0 (t := 36) (v := .agg (bs (fun _ => false)).toArray) (fun _ => by kernel_rfl) (by decide) ?_
   | refine o_boxa (vs := bs a) rfl rfl (by decide) fun ga => ?_
   | refine o_boxa (vs := bs b) rfl rfl (by decide) fun gb => ?_
   | (refine z_isstore ?_; first
   | (refine z_stw rfl ?_; first
   | ((refine z_sti 0 rfl rfl ?_; refine o_storeb0 rfl tabOk rfl rfl rfl (by first | exact bs_len _ | rfl | (simp only [bs_len]; done) | rfl) (by first | exact bs_one _ | rfl | rfl) (by first | exact bs_len _ | rfl | (simp only [bs_len]; done) | rfl) ?_))))
   | refine o_assign rfl (by decide) ?_))
  refine Hold.go ?_
  by_cases hl : k < 1024
  · by_cases h0 : kind = 0
    · cases ha : a k with
      | true =>
        have hv : true = layS kind a b k := by unfold layS layB; rw [if_pos h0, ha]; rfl
        repeat' (first
         | (refine s_is ?_; first
         | (refine s_isagain ?_; first
         | exact c_again (k + 1) (by omega) (by omega) ⟨rfl, rfl, rfl, rfl, rfl, rfl, trivial⟩ (fun w h => h))
         | (refine s_isw ?_; first
         | refine c_seq ?_
         | refine c_block ?_
         | refine c_region ?_
         | refine c_skip ?_
         | (refine s_iscond ?_; first
         | (refine c_true rfl (by first | with_reducible rfl | with_reducible assumption | ((with_reducible refine decide_eq_true ?_); first | with_reducible rfl | with_reducible assumption | omega)) ?_))))
         | (refine z_isg0 ?_; first
         | (refine z_skip0 (by decide) rfl rfl (by first | with_reducible rfl | with_reducible assumption | ((with_reducible refine decide_eq_true ?_); first | with_reducible rfl | with_reducible assumption | omega)) ?_))
         | (refine z_isnil ?_; first
         | refine z_list ?_)
         | (refine z_isop ?_; first
         | (refine z_isbin ?_; first
         | (refine z_isb .add ?_; first
         | refine o_add rfl rfl (by omega) (by omega) (by decide) ?_)
         | (refine z_isb .eql ?_; first
         | refine o_eq rfl rfl (by decide) ?_)
         | (refine z_isb .lss ?_; first
         | refine o_lt rfl rfl (by decide) ?_))
         | (refine z_isload ?_; first
         | (refine z_ld1 tabOk rfl rfl ?_; first
         | refine o_loadm tabOk rfl rfl rfl (by repeat' (first | exact List.mem_cons_self | apply List.mem_cons_of_mem)) (by first | exact bs_atk _ (by omega) | rfl | rfl) (by decide) ?_))
         | (refine z_isstore ?_; first
         | (refine z_st1 rfl rfl ?_; first
         | refine o_store rfl tabOk rfl rfl rfl rfl rfl (by first | exact bs_atk _ (by omega) | rfl | rfl) (by first | exact pt_set _ _ (by first | rfl | assumption) (by omega) | rfl | rfl) ?_))
         | (refine z_ispick ?_; first
         | (refine o_pick1 rfl (by first | with_reducible rfl | with_reducible assumption | ((with_reducible refine decide_eq_true ?_); first | with_reducible rfl | with_reducible assumption | omega)) rfl (by decide) ?_))
         | (refine z_isix ?_; first
         | refine o_index0 tabOk rfl rfl rfl rfl (by omega) (by omega) (by decide) ?_)
         | refine o_move rfl (by decide) ?_
         | refine o_assign rfl (by decide) ?_))
      | false =>
        have hv : b k = layS kind a b k := by unfold layS layB; rw [if_pos h0, ha]; rfl
        repeat' (first
         | (refine s_is ?_; first
         | (refine s_isagain ?_; first
         | exact c_again (k + 1) (by omega) (by omega) ⟨rfl, rfl, rfl, rfl, rfl, rfl, trivial⟩ (fun w h => h))
         | (refine s_isw ?_; first
         | refine c_seq ?_
         | refine c_block ?_
         | refine c_region ?_
         | refine c_skip ?_
         | (refine s_iscond ?_; first
         | (refine c_true rfl (by first | with_reducible rfl | with_reducible assumption | ((with_reducible refine decide_eq_true ?_); first | with_reducible rfl | with_reducible assumption | omega)) ?_))))
         | (refine z_isg0 ?_; first
         | (refine z_want0 rfl rfl (by first | with_reducible rfl | with_reducible assumption | ((with_reducible refine decide_eq_false ?_); first | with_reducible assumption | omega)) ?_))
         | (refine z_isnil ?_; first
         | refine z_list ?_)
         | (refine z_isop ?_; first
         | (refine z_isbin ?_; first
         | (refine z_isb .add ?_; first
         | refine o_add rfl rfl (by omega) (by omega) (by decide) ?_)
         | (refine z_isb .eql ?_; first
         | refine o_eq rfl rfl (by decide) ?_)
         | (refine z_isb .lss ?_; first
         | refine o_lt rfl rfl (by decide) ?_))
         | (refine z_isload ?_; first
         | (refine z_ld1 tabOk rfl rfl ?_; first
         | refine o_loadm tabOk rfl rfl rfl (by repeat' (first | exact List.mem_cons_self | apply List.mem_cons_of_mem)) (by first | exact bs_atk _ (by omega) | rfl | rfl) (by decide) ?_))
         | (refine z_isstore ?_; first
         | (refine z_st1 rfl rfl ?_; first
         | refine o_store rfl tabOk rfl rfl rfl rfl rfl (by first | exact bs_atk _ (by omega) | rfl | rfl) (by first | exact pt_set _ _ (by first | rfl | assumption) (by omega) | rfl | rfl) ?_))
         | (refine z_ispick ?_; first
         | (refine o_pick0 rfl (by first | with_reducible rfl | with_reducible assumption | ((with_reducible refine decide_eq_false ?_); first | with_reducible assumption | omega)) rfl (by decide) ?_))
         | (refine z_isix ?_; first
         | refine o_index0 tabOk rfl rfl rfl rfl (by omega) (by omega) (by decide) ?_)
         | refine o_move rfl (by decide) ?_
         | refine o_assign rfl (by decide) ?_))
    · by_cases h1 : kind = 1
      · cases ha : a k with
        | true =>
          have hv : (!b k) = layS kind a b k := by unfold layS layB; rw [if_neg h0, if_pos h1, ha]; rfl
          repeat' (first
           | (refine s_is ?_; first
           | (refine s_isagain ?_; first
           | exact c_again (k + 1) (by omega) (by omega) ⟨rfl, rfl, rfl, rfl, rfl, rfl, trivial⟩ (fun w h => h))
           | (refine s_isw ?_; first
           | refine c_seq ?_
           | refine c_block ?_
           | refine c_region ?_
           | refine c_skip ?_
           | (refine s_iscond ?_; first
           | (refine c_true rfl (by first | with_reducible rfl | with_reducible assumption | ((with_reducible refine decide_eq_true ?_); first | with_reducible rfl | with_reducible assumption | omega)) ?_)
           | (refine c_false rfl (by first | with_reducible rfl | with_reducible assumption | ((with_reducible refine decide_eq_false ?_); first | with_reducible assumption | omega)) ?_))))
           | (refine z_isg1 ?_; first
           | (refine z_want1 rfl rfl (by first | with_reducible rfl | with_reducible assumption | ((with_reducible refine decide_eq_true ?_); first | with_reducible rfl | with_reducible assumption | omega)) ?_))
           | (refine z_isnil ?_; first
           | refine z_list ?_)
           | (refine z_isop ?_; first
           | (refine z_isbin ?_; first
           | (refine z_isb .add ?_; first
           | refine o_add rfl rfl (by omega) (by omega) (by decide) ?_)
           | (refine z_isb .eql ?_; first
           | refine o_eq rfl rfl (by decide) ?_)
           | (refine z_isb .lss ?_; first
           | refine o_lt rfl rfl (by decide) ?_))
           | (refine z_isload ?_; first
           | (refine z_ld1 tabOk rfl rfl ?_; first
           | refine o_loadm tabOk rfl rfl rfl (by repeat' (first | exact List.mem_cons_self | apply List.mem_cons_of_mem)) (by first | exact bs_atk _ (by omega) | rfl | rfl) (by decide) ?_))
           | (refine z_isstore ?_; first
           | (refine z_st1 rfl rfl ?_; first
           | refine o_store rfl tabOk rfl rfl rfl rfl rfl (by first | exact bs_atk _ (by omega) | rfl | rfl) (by first | exact pt_set _ _ (by first | rfl | assumption) (by omega) | rfl | rfl) ?_))
           | (refine z_ispick ?_; first
           | (refine o_pick1 rfl (by first | with_reducible rfl | with_reducible assumption | ((with_reducible refine decide_eq_true ?_); first | with_reducible rfl | with_reducible assumption | omega)) rfl (by decide) ?_))
           | (refine z_isix ?_; first
           | refine o_index0 tabOk rfl rfl rfl rfl (by omega) (by omega) (by decide) ?_)
           | refine o_move rfl (by decide) ?_
           | refine o_assign rfl (by decide) ?_
           | refine o_not rfl (by decide) ?_))
        | false =>
          have hv : false = layS kind a b k := by unfold layS layB; rw [if_neg h0, if_pos h1, ha]; rfl
          repeat' (first
           | (refine s_is ?_; first
           | (refine s_isagain ?_; first
           | exact c_again (k + 1) (by omega) (by omega) ⟨rfl, rfl, rfl, rfl, rfl, rfl, trivial⟩ (fun w h => h))
           | (refine s_isw ?_; first
           | refine c_seq ?_
           | refine c_block ?_
           | refine c_region ?_
           | refine c_skip ?_
           | (refine s_iscond ?_; first
           | (refine c_true rfl (by first | with_reducible rfl | with_reducible assumption | ((with_reducible refine decide_eq_true ?_); first | with_reducible rfl | with_reducible assumption | omega)) ?_)
           | (refine c_false rfl (by first | with_reducible rfl | with_reducible assumption | ((with_reducible refine decide_eq_false ?_); first | with_reducible assumption | omega)) ?_))))
           | (refine z_isg1 ?_; first
           | (refine z_skip1 (by decide) rfl rfl (by first | with_reducible rfl | with_reducible assumption | ((with_reducible refine decide_eq_false ?_); first | with_reducible assumption | omega)) ?_))
           | (refine z_isnil ?_; first
           | refine z_list ?_)
           | (refine z_isop ?_; first
           | (refine z_isbin ?_; first
           | (refine z_isb .add ?_; first
           | refine o_add rfl rfl (by omega) (by omega) (by decide) ?_)
           | (refine z_isb .eql ?_; first
           | refine o_eq rfl rfl (by decide) ?_)
           | (refine z_isb .lss ?_; first
           | refine o_lt rfl rfl (by decide) ?_))
           | (refine z_isload ?_; first
           | (refine z_ld1 tabOk rfl rfl ?_; first
           | refine o_loadm tabOk rfl rfl rfl (by repeat' (first | exact List.mem_cons_self | apply List.mem_cons_of_mem)) (by first | exact bs_atk _ (by omega) | rfl | rfl) (by decide) ?_))
           | (refine z_isstore ?_; first
           | (refine z_st1 rfl rfl ?_; first
           | refine o_store rfl tabOk rfl rfl rfl rfl rfl (by first | exact bs_atk _ (by omega) | rfl | rfl) (by first | exact pt_set _ _ (by first | rfl | assumption) (by omega) | rfl | rfl) ?_))
           | (refine z_ispick ?_; first
           | (refine o_pick0 rfl (by first | with_reducible rfl | with_reducible assumption | ((with_reducible refine decide_eq_false ?_); first | with_reducible assumption | omega)) rfl (by decide) ?_))
           | (refine z_isix ?_; first
           | refine o_index0 tabOk rfl rfl rfl rfl (by omega) (by omega) (by decide) ?_)
           | refine o_move rfl (by decide) ?_
           | refine o_assign rfl (by decide) ?_))
      · cases ha : a k with
        | true =>
          have hv : b k = layS kind a b k := by unfold layS layB; rw [if_neg h0, if_neg h1, ha]; rfl
          repeat' (first
           | (refine s_is ?_; first
           | (refine s_isagain ?_; first
           | exact c_again (k + 1) (by omega) (by omega) ⟨rfl, rfl, rfl, rfl, rfl, rfl, trivial⟩ (fun w h => h))
           | (refine s_isw ?_; first
           | refine c_seq ?_
           | refine c_block ?_
           | refine c_region ?_
           | refine c_skip ?_
           | (refine s_iscond ?_; first
           | (refine c_true rfl (by first | with_reducible rfl | with_reducible assumption | ((with_reducible refine decide_eq_true ?_); first | with_reducible rfl | with_reducible assumption | omega)) ?_)
           | (refine c_false rfl (by first | with_reducible rfl | with_reducible assumption | ((with_reducible refine decide_eq_false ?_); first | with_reducible assumption | omega)) ?_))))
           | (refine z_isg1 ?_; first
           | (refine z_want1 rfl rfl (by first | with_reducible rfl | with_reducible assumption | ((with_reducible refine decide_eq_true ?_); first | with_reducible rfl | with_reducible assumption | omega)) ?_))
           | (refine z_isnil ?_; first
           | refine z_list ?_)
           | (refine z_isop ?_; first
           | (refine z_isbin ?_; first
           | (refine z_isb .add ?_; first
           | refine o_add rfl rfl (by omega) (by omega) (by decide) ?_)
           | (refine z_isb .eql ?_; first
           | refine o_eq rfl rfl (by decide) ?_)
           | (refine z_isb .lss ?_; first
           | refine o_lt rfl rfl (by decide) ?_))
           | (refine z_isload ?_; first
           | (refine z_ld1 tabOk rfl rfl ?_; first
           | refine o_loadm tabOk rfl rfl rfl (by repeat' (first | exact List.mem_cons_self | apply List.mem_cons_of_mem)) (by first | exact bs_atk _ (by omega) | rfl | rfl) (by decide) ?_))
           | (refine z_isstore ?_; first
           | (refine z_st1 rfl rfl ?_; first
           | refine o_store rfl tabOk rfl rfl rfl rfl rfl (by first | exact bs_atk _ (by omega) | rfl | rfl) (by first | exact pt_set _ _ (by first | rfl | assumption) (by omega) | rfl | rfl) ?_))
           | (refine z_ispick ?_; first
           | (refine o_pick1 rfl (by first | with_reducible rfl | with_reducible assumption | ((with_reducible refine decide_eq_true ?_); first | with_reducible rfl | with_reducible assumption | omega)) rfl (by decide) ?_))
           | (refine z_isix ?_; first
           | refine o_index0 tabOk rfl rfl rfl rfl (by omega) (by omega) (by decide) ?_)
           | refine o_move rfl (by decide) ?_
           | refine o_assign rfl (by decide) ?_))
        | false =>
          have hv : false = layS kind a b k := by unfold layS layB; rw [if_neg h0, if_neg h1, ha]; rfl
          repeat' (first
           | (refine s_is ?_; first
           | (refine s_isagain ?_; first
           | exact c_again (k + 1) (by omega) (by omega) ⟨rfl, rfl, rfl, rfl, rfl, rfl, trivial⟩ (fun w h => h))
           | (refine s_isw ?_; first
           | refine c_seq ?_
           | refine c_block ?_
           | refine c_region ?_
           | refine c_skip ?_
           | (refine s_iscond ?_; first
           | (refine c_true rfl (by first | with_reducible rfl | with_reducible assumption | ((with_reducible refine decide_eq_true ?_); first | with_reducible rfl | with_reducible assumption | omega)) ?_)
           | (refine c_false rfl (by first | with_reducible rfl | with_reducible assumption | ((with_reducible refine decide_eq_false ?_); first | with_reducible assumption | omega)) ?_))))
           | (refine z_isg1 ?_; first
           | (refine z_skip1 (by decide) rfl rfl (by first | with_reducible rfl | with_reducible assumption | ((with_reducible refine decide_eq_false ?_); first | with_reducible assumption | omega)) ?_))
           | (refine z_isnil ?_; first
           | refine z_list ?_)
           | (refine z_isop ?_; first
           | (refine z_isbin ?_; first
           | (refine z_isb .add ?_; first
           | refine o_add rfl rfl (by omega) (by omega) (by decide) ?_)
           | (refine z_isb .eql ?_; first
           | refine o_eq rfl rfl (by decide) ?_)
           | (refine z_isb .lss ?_; first
           | refine o_lt rfl rfl (by decide) ?_))
           | (refine z_isload ?_; first
           | (refine z_ld1 tabOk rfl rfl ?_; first
           | refine o_loadm tabOk rfl rfl rfl (by repeat' (first | exact List.mem_cons_self | apply List.mem_cons_of_mem)) (by first | exact bs_atk _ (by omega) | rfl | rfl) (by decide) ?_))
           | (refine z_isstore ?_; first
           | (refine z_st1 rfl rfl ?_; first
           | refine o_store rfl tabOk rfl rfl rfl rfl rfl (by first | exact bs_atk _ (by omega) | rfl | rfl) (by first | exact pt_set _ _ (by first | rfl | assumption) (by omega) | rfl | rfl) ?_))
           | (refine z_ispick ?_; first
           | (refine o_pick0 rfl (by first | with_reducible rfl | with_reducible assumption | ((with_reducible refine decide_eq_false ?_); first | with_reducible assumption | omega)) rfl (by decide) ?_))
           | (refine z_isix ?_; first
           | refine o_index0 tabOk rfl rfl rfl rfl (by omega) (by omega) (by decide) ?_)
           | refine o_move rfl (by decide) ?_
           | refine o_assign rfl (by decide) ?_))
  · obtain rfl : k = 1024 := by omega
    rw [pt_end]
    repeat' (first
     | (refine s_is ?_; first
     | (refine s_isret ?_; first
     | exact p_r1 rfl (res_c tabOk rfl rfl rfl 1 rfl (bs_len _)))
     | (refine s_isw ?_; first
     | refine c_seq ?_
     | refine c_region ?_
     | refine c_ret ?_
     | refine c_exit ?_
     | (refine s_iscond ?_; first
     | (refine c_false rfl (by first | with_reducible rfl | with_reducible assumption | ((with_reducible refine decide_eq_false ?_); first | with_reducible assumption | omega)) ?_))))
     | (refine z_isnil ?_; first
     | refine z_list ?_)
     | (refine z_isop ?_; first
     | (refine z_isbin ?_; first
     | (refine z_isb .lss ?_; first
     | refine o_lt rfl rfl (by decide) ?_))
     | (refine z_isload ?_; first
     | (refine z_ldw tabOk rfl rfl ?_; first
     | (refine o_loadwm tabOk rfl rfl rfl (by repeat' (first | exact List.mem_cons_self | apply List.mem_cons_of_mem)) (by first | exact bs_len _ | rfl | (simp only [bs_len]; done) | rfl) (by decide) ?_)))
     | (refine z_isstore ?_; first
     | (refine z_stw rfl ?_; first
     | ((refine z_sti 1 rfl rfl ?_; refine o_storeb1 rfl tabOk rfl rfl rfl (by first | exact bs_len _ | rfl | (simp only [bs_len]; done) | rfl) (by first | exact bs_one _ | rfl | rfl) (by first | exact bs_len _ | rfl | (simp only [bs_len]; done) | rfl) ?_))))
     | refine o_move rfl (by decide) ?_))
end Go.Proofs.Ytfegdehgnhomnaa
