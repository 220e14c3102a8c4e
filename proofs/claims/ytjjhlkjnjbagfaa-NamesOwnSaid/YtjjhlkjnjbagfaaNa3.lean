/-
Tables of names: all names; two lists alike; a copy.
-/
import Derived.Test.YtjjhlkjnjbagfaaNa2
namespace Go.Proofs.Ytjjhlkjnjbagfaa
set_option linter.unusedVariables false
set_option linter.unusedSimpArgs false
open Eng
attribute [local irreducible] Eng.Hold Eng.Z Eng.S Eng.cells Eng.old Eng.own il fi gt addL drL nmN
attribute [local irreducible] ix fd gv
theorem clone_c (L : List Int) (A : Option Addr) (c : Nat) (fr : List Chunk) (hrd : Rds fr A (il L)) (hx : L.length ≤ 1000000) : Does Try.prog 44 [.slice A L.length c] fr (fun _ : Option Addr × Nat => True) (fun x => .slice x.1 L.length x.2) (fun x => own x.1 x.2 3 1 L.length (il L) :: fr) := by
  intro w hw
  have hne := il_ne hrd hw
  refine f_enter Try.func44 rfl Try.ntmps44 rfl hw ?_
  cases A with
  | none =>
    have h0 : L = [] := by
      cases L with
      | nil => rfl
      | cons x L => exact absurd rfl (hne (by simp))
    subst h0
    repeat' (first
     | (refine s_is ?_; first
     | (refine s_isret ?_; first
     | (exact f_r1 rfl (res_t rfl) (none, 0) trivial rfl (fun w h => by rw [il_nil]; exact h.nil 3 1)))
     | (refine s_isw ?_; first
     | refine c_seq ?_
     | refine c_region ?_
     | refine c_ret ?_
     | (refine s_iscond ?_; first
     | (refine c_true rfl (by first | (simp only [Bool.not_eq_true', decide_eq_false_iff_not]; omega) | (with_reducible assumption) | (rw [decide_eq_false] <;> (first | omega | with_reducible rfl)) | (rw [decide_eq_true] <;> (first | omega | with_reducible rfl)) | (simp; done) | (simp; omega)) ?_)))
     | refine x_then_ret ?_)
     | (refine z_isnil ?_; first
     | refine z_list ?_)
     | (refine z_isop ?_; first
     | refine o_sleq tabOk rfl rfl (by decide) ?_
     | refine o_move rfl (by decide) ?_
     | refine o_assign rfl (by decide) ?_))
  | some p =>
    repeat' (first
     | (refine s_is ?_; first
     | (refine s_isret ?_; first
     | (exact f_r1 rfl (res_t rfl) (A', c') trivial (by rw [Nat.zero_add]) (fun w h => by rw [Nat.zero_add, List.nil_append] at h; exact h)))
     | (refine s_isw ?_; first
     | refine c_seq ?_
     | refine c_region ?_
     | refine c_skip ?_
     | refine c_ret ?_
     | (refine s_iscond ?_; first
     | (refine c_false rfl (by first | (simp only [Bool.not_eq_false', decide_eq_true_eq]; omega) | (with_reducible assumption) | (rw [decide_eq_false] <;> (first | omega | with_reducible rfl)) | (rw [decide_eq_true] <;> (first | omega | with_reducible rfl)) | (simp; done) | (simp; omega)) ?_))))
     | (refine z_isnil ?_; first
     | refine z_list ?_)
     | (refine z_isop ?_; first
     | refine o_sleq tabOk rfl rfl (by decide) ?_
     | refine o_make0 rfl tabOk rfl rfl (by decide) fun g => ?_
     | refine o_append rfl tabOk zeroOk rfl rfl rfl rfl rfl rfl (Rds.cons _ hrd) ((il_len _).trans (Nat.mul_one _).symm) (il_one _) (by omega) (by omega) (by decide) fun A' c' => ?_
     | refine o_move rfl (by decide) ?_
     | refine o_assign rfl (by decide) ?_))
theorem same_c (L : List Int) (A B : Option Addr) (c e : Nat) (fr : List Chunk) (hrd : Rds fr A (il L)) (hrd2 : Rds fr B (il L)) (hx : L.length ≤ 9223372036854775807) : Does Try.prog 31 [.slice A L.length c, .slice B L.length e] fr (fun _ : Unit => True) (fun _ => .bool true) (fun _ => fr) := by
  intro w hw
  have hne := il_ne hrd hw
  have hne2 := il_ne hrd2 hw
  refine f_enter Try.func31 rfl Try.ntmps31 rfl hw ?_
  repeat' (first
   | (refine s_is ?_; first
   | (refine s_isw ?_; first
   | (refine s_isloop ?_; first
   | ((refine c_loop (X := Nat) (fun k => k ≤ L.length) (fun k => [(0, .slice A L.length c), (1, .slice B L.length e), (5, .int .i64 k)]) (fun _ => fr) (fun k => L.length - k) 0 (Nat.zero_le _) ⟨rfl, rfl, rfl, trivial⟩ (fun w h => h) (fun k hk => ?_); refine hold ?_)))
   | refine c_seq ?_
   | refine c_block ?_
   | refine c_region ?_
   | refine c_skip ?_
   | (refine s_iscond ?_; first
   | (refine c_false rfl (by first | with_reducible rfl | with_reducible assumption | ((with_reducible refine decide_eq_false ?_); first | with_reducible assumption | omega)) ?_))))
   | (refine z_isnil ?_; first
   | refine z_list ?_)
   | (refine z_isop ?_; first
   | (refine z_isbin ?_; first
   | (refine z_isb .neq ?_; first
   | refine o_ne rfl rfl (by decide) ?_))
   | (refine z_isbi ?_; first
   | refine o_len tabOk rfl rfl (by decide) ?_)
   | refine o_move rfl (by decide) ?_
   | refine o_assign rfl (by decide) ?_))
  refine Hold.go ?_
  by_cases hl : k < L.length
  · skip
    repeat' (first
     | (refine s_is ?_; first
     | (refine s_isagain ?_; first
     | exact c_again (k + 1) (by omega) (by omega) ⟨rfl, rfl, rfl, trivial⟩ (fun w h => h))
     | (refine s_isw ?_; first
     | refine c_seq ?_
     | refine c_block ?_
     | refine c_region ?_
     | refine c_mixed mixed (by kernel_rfl) ?_
     | refine c_skip ?_
     | (refine s_iscond ?_; first
     | (refine c_true rfl (by first | with_reducible rfl | with_reducible assumption | ((with_reducible refine decide_eq_true ?_); first | with_reducible rfl | with_reducible assumption | omega)) ?_)
     | (refine c_false rfl (by first | with_reducible rfl | with_reducible assumption | ((with_reducible refine decide_eq_false ?_); first | with_reducible assumption | omega)) ?_))))
     | (refine z_isnil ?_; first
     | refine z_list ?_
     | refine z_mixed ?_)
     | (refine z_isop ?_; first
     | refine o_indexs1 tabOk (hne2 (by omega)) rfl rfl rfl rfl (by omega) (by omega) (by decide) ?_
     | (refine z_isbin ?_; first
     | (refine z_isb .add ?_; first
     | refine o_add rfl rfl (by omega) (by omega) (by decide) ?_)
     | (refine z_isb .neq ?_; first
     | refine o_ne rfl rfl (by decide) ?_)
     | (refine z_isb .lss ?_; first
     | refine o_lt rfl rfl (by decide) ?_))
     | (refine z_isload ?_; first
     | refine o_loads tabOk hrd2 rfl rfl rfl (il_at _ (by omega)) (by decide) ?_
     | (refine z_ld1 tabOk rfl rfl ?_; first
     | refine o_loads tabOk (by first | exact hrd | exact Rds.cons _ hrd | exact Rds.cons _ (Rds.cons _ hrd) | exact Rds.cons _ (Rds.cons _ (Rds.cons _ hrd)) | exact own_rds 0 rfl | exact own_rds 1 rfl | exact own_rds 2 rfl | assumption) rfl rfl rfl (by first | exact il_at _ (by omega) | rfl | rfl) (by decide) ?_))
     | (refine z_isix ?_; first
     | refine o_indexs1 tabOk (by first | exact hne (by omega) | assumption) rfl rfl rfl rfl (by omega) (by omega) (by decide) ?_)
     | (refine z_isbi ?_; first
     | refine o_len tabOk rfl rfl (by decide) ?_)
     | refine o_move rfl (by decide) ?_
     | refine o_assign rfl (by decide) ?_))
  · obtain rfl : k = L.length := by omega
    repeat' (first
     | (refine s_is ?_; first
     | (refine s_isret ?_; first
     | exact f_r1 rfl (res_t rfl) () trivial rfl (fun w h => h))
     | (refine s_isw ?_; first
     | refine c_seq ?_
     | refine c_region ?_
     | refine c_ret ?_
     | refine c_exit ?_
     | (refine s_iscond ?_; first
     | (refine c_false rfl (by first | with_reducible rfl | with_reducible assumption | ((with_reducible refine decide_eq_false ?_); first | with_reducible assumption | omega)) ?_))))
     | (refine z_isnil ?_; first
     | refine z_list ?_)
     | (refine z_isop ?_; first
     | (refine z_isbin ?_; first
     | (refine z_isb .lss ?_; first
     | refine o_lt rfl rfl (by decide) ?_))
     | (refine z_isbi ?_; first
     | refine o_len tabOk rfl rfl (by decide) ?_)
     | refine o_move rfl (by decide) ?_
     | refine o_assign rfl (by decide) ?_))
theorem names_c (L : List Int) (A : Option Addr) (c : Nat) (fr : List Chunk) (hrd : Rds fr A (il L)) (hx : L.length ≤ 1000000) : Does Try.prog 40 [.agg #[.slice A L.length c]] fr (fun _ : Option Addr × Nat => True) (fun x => .slice x.1 (nmN L L.length).length x.2) (fun x => own x.1 x.2 3 1 (nmN L L.length).length (il (nmN L L.length)) :: fr) := by
  intro w hw
  have hne := il_ne hrd hw
  refine f_enter Try.func40 rfl Try.ntmps40 rfl hw ?_
  repeat' (first
   | (refine s_is ?_; first
   | (refine s_isw ?_; first
   | (refine s_isloop ?_; first
   | ((refine c_loop (X := Option Addr × Nat × Nat) (fun y => y.2.2 ≤ L.length) (fun y => [(3, .slice y.1 (nmN L y.2.2).length y.2.1), (7, .slice A L.length c), (8, .int .i64 L.length), (9, .int .i64 y.2.2)]) (fun y => own y.1 y.2.1 3 1 (nmN L y.2.2).length (il (nmN L y.2.2)) :: fr) (fun y => L.length - y.2.2) (none, 0, 0) (Nat.zero_le _) ⟨(by dsimp only; rw [nmN_zero]; rfl), rfl, rfl, rfl, trivial⟩ (fun w h => by dsimp only; rw [nmN_zero, il_nil]; exact ((h.sel 1 [0] (by decide)).mask [false]).nil 3 1) (fun y hi => ?_); obtain ⟨B, e, n⟩ := y; dsimp only at hi ⊢; refine hold ?_)))
   | refine c_seq ?_
   | refine c_block ?_
   | refine c_region ?_))
   | (refine z_isnil ?_; first
   | refine z_list ?_)
   | (refine z_isop ?_; first
   | refine o_boxa (vs := [.slice A L.length c]) rfl rfl (by decide) fun g => ?_
   | (refine z_isload ?_; first
   | (refine z_ld1 tabOk rfl rfl ?_; first
   | refine o_loadm tabOk rfl rfl rfl (by repeat' (first | exact List.mem_cons_self | apply List.mem_cons_of_mem)) (by first | exact il_at _ (by omega) | rfl | rfl) (by decide) ?_))
   | (refine z_isbi ?_; first
   | refine o_len tabOk rfl rfl (by decide) ?_)
   | refine o_move rfl (by decide) ?_
   | refine o_assign rfl (by decide) ?_
   | refine o_field0 tabOk rfl rfl rfl rfl rfl (by decide) ?_))
  refine Hold.go ?_
  have hl := nmN_le L n
  by_cases h7 : n < L.length
  · have e3 : ((n : Int)).toNat = n := Int.toNat_natCast n
    by_cases h : L.getD n 0 = -1
    · have h1 := nmN_no h
      have h' : L.getD ((n : Int)).toNat 0 = -1 := by rw [e3]; exact h
      repeat' (first
       | (refine s_is ?_; first
       | (refine s_isagain ?_; first
       | (exact c_again (B, e, n + 1) (by dsimp only; omega) (by dsimp only; omega) ⟨(by dsimp only; rw [h1]; rfl), rfl, rfl, rfl, trivial⟩ (fun w h => by dsimp only; rw [h1]; exact h)))
       | (refine s_isw ?_; first
       | refine c_seq ?_
       | refine c_block ?_
       | refine c_region ?_
       | refine c_skip ?_
       | (refine s_iscond ?_; first
       | (refine c_true rfl (by first | with_reducible rfl | with_reducible assumption | ((with_reducible refine decide_eq_true ?_); first | with_reducible rfl | with_reducible assumption | omega)) ?_)
       | (refine c_false rfl (by first | with_reducible rfl | with_reducible assumption | ((with_reducible refine decide_eq_false ?_); first | with_reducible assumption | omega)) ?_))))
       | (refine z_isnil ?_; first
       | refine z_list ?_)
       | (refine z_isop ?_; first
       | (refine z_isbin ?_; first
       | (refine z_isb .add ?_; first
       | refine o_add rfl rfl (by omega) (by omega) (by decide) ?_)
       | (refine z_isb .neq ?_; first
       | refine o_ne rfl rfl (by decide) ?_)
       | (refine z_isb .lss ?_; first
       | refine o_lt rfl rfl (by decide) ?_))
       | (refine z_isload ?_; first
       | (refine z_ld1 tabOk rfl rfl ?_; first
       | refine o_loads tabOk (by first | exact Rds.cons _ (Rds.cons _ hrd) | exact Rds.cons _ hrd | exact hrd | exact own_rds 0 rfl | exact own_rds 1 rfl | exact own_rds 2 rfl | assumption) rfl rfl rfl (by first | exact il_at _ (by omega) | rfl | rfl) (by decide) ?_))
       | (refine z_isix ?_; first
       | refine o_indexs1 tabOk (by first | exact hne (by omega) | assumption) rfl rfl rfl rfl (by omega) (by omega) (by decide) ?_)
       | refine o_move rfl (by decide) ?_
       | refine o_assign rfl (by decide) ?_))
    · have h1 := nmN_yes h
      have h' : L.getD ((n : Int)).toNat 0 ≠ -1 := by rw [e3]; exact h
      repeat' (first
       | (refine s_is ?_; first
       | (refine s_isagain ?_; first
       | (exact c_again (A', c', n + 1) (by dsimp only; omega) (by dsimp only; omega) ⟨(by dsimp only; rw [h1, List.length_append]; rfl), rfl, rfl, rfl, trivial⟩ (fun w h => by dsimp only; rw [h1, il_add, List.length_append]; exact ((h.sel 2 [0, 1] (by decide)).mask [true, false]))))
       | (refine s_isw ?_; first
       | refine c_seq ?_
       | refine c_block ?_
       | refine c_region ?_
       | refine c_skip ?_
       | (refine s_iscond ?_; first
       | (refine c_true rfl (by first | with_reducible rfl | with_reducible assumption | ((with_reducible refine decide_eq_true ?_); first | with_reducible rfl | with_reducible assumption | omega)) ?_))))
       | (refine z_isnil ?_; first
       | refine z_list ?_)
       | (refine z_isop ?_; first
       | (refine z_isbin ?_; first
       | (refine z_isb .add ?_; first
       | refine o_add rfl rfl (by omega) (by omega) (by decide) ?_)
       | (refine z_isb .neq ?_; first
       | refine o_ne rfl rfl (by decide) ?_)
       | (refine z_isb .lss ?_; first
       | refine o_lt rfl rfl (by decide) ?_))
       | (refine z_isload ?_; first
       | (refine z_ld1 tabOk rfl rfl ?_; first
       | refine o_loads tabOk (by first | exact Rds.cons _ (Rds.cons _ hrd) | exact Rds.cons _ hrd | exact hrd | exact own_rds 0 rfl | exact own_rds 1 rfl | exact own_rds 2 rfl | assumption) rfl rfl rfl (by first | exact il_at _ (by omega) | rfl | rfl) (by decide) ?_))
       | (refine z_ismakes ?_; first
       | refine o_make1 rfl tabOk zeroOk rfl rfl rfl rfl rfl (by decide) fun g => ?_)
       | (refine z_isix ?_; first
       | refine o_indexs1 tabOk (by first | exact hne (by omega) | assumption) rfl rfl rfl rfl (by omega) (by omega) (by decide) ?_)
       | (refine z_isbi ?_; first
       | (refine z_front rfl 1 rfl ?_; refine o_append rfl tabOk zeroOk rfl rfl rfl rfl rfl rfl (by first | exact Rds.cons _ (Rds.cons _ hrd) | exact Rds.cons _ hrd | exact hrd | exact own_rds 0 rfl | exact own_rds 1 rfl | exact own_rds 2 rfl | assumption) (by first | rfl | (simp; done) | rfl | (simp; done)) (by first | rfl | (simp; done)) (by omega) (by omega) (by decide) fun A' c' => ?_))
       | refine o_move rfl (by decide) ?_
       | refine o_assign rfl (by decide) ?_))
  · obtain rfl : n = L.length := by omega
    repeat' (first
     | (refine s_is ?_; first
     | (refine s_isret ?_; first
     | exact f_r1 rfl (res_t rfl) (B, e) trivial rfl (fun w h => h))
     | (refine s_isw ?_; first
     | refine c_seq ?_
     | refine c_region ?_
     | refine c_ret ?_
     | refine c_exit ?_
     | (refine s_iscond ?_; first
     | (refine c_false rfl (by first | with_reducible rfl | with_reducible assumption | ((with_reducible refine decide_eq_false ?_); first | with_reducible assumption | omega)) ?_))))
     | (refine z_isnil ?_; first
     | refine z_list ?_)
     | (refine z_isop ?_; first
     | (refine z_isbin ?_; first
     | (refine z_isb .lss ?_; first
     | refine o_lt rfl rfl (by decide) ?_))
     | refine o_move rfl (by decide) ?_
     | refine o_assign rfl (by decide) ?_))
theorem rnames_c (L : List Int) (hL : Nm L) (A : Option Addr) (c : Nat) (fr : List Chunk) (hrd : Rds fr A (il L)) (hx : L.length ≤ 1000000) : Does Try.prog 41 [.slice A L.length c] fr (fun _ : Option Addr × Nat => True) (fun x => .slice x.1 (nmN L L.length).length x.2) (fun x => own x.1 x.2 3 1 (nmN L L.length).length (il (nmN L L.length)) :: fr) := by
  intro w hw
  have hne := il_ne hrd hw
  refine f_enter Try.func41 rfl Try.ntmps41 rfl hw ?_
  repeat' (first
   | (refine s_is ?_; first
   | (refine s_isw ?_; first
   | (refine s_isloop ?_; first
   | ((refine c_loop (X := Option Addr × Nat × Nat) (fun y => y.2.2 ≤ L.length) (fun y => [(0, .slice A L.length c), (3, .slice y.1 (nmN L y.2.2).length y.2.1), (4, .int .i64 y.2.2)]) (fun y => own y.1 y.2.1 3 1 (nmN L y.2.2).length (il (nmN L y.2.2)) :: fr) (fun y => L.length - y.2.2) (none, 0, 0) (Nat.zero_le _) ⟨rfl, (by dsimp only; rw [nmN_zero]; rfl), rfl, trivial⟩ (fun w h => by dsimp only; rw [nmN_zero, il_nil]; exact h.nil 3 1) (fun y hi => ?_); obtain ⟨B, e, n⟩ := y; dsimp only at hi ⊢; refine hold ?_)))
   | refine c_seq ?_
   | refine c_block ?_
   | refine c_region ?_))
   | (refine z_isnil ?_; first
   | refine z_list ?_)
   | (refine z_isop ?_; first
   | refine o_assign rfl (by decide) ?_))
  refine Hold.go ?_
  have hl := nmN_le L n
  by_cases h7 : n < L.length
  · have e3 : ((n : Int)).toNat = n := Int.toNat_natCast n
    have hv := hL.v n h7
    by_cases h : L.getD n 0 = -1
    · have h1 := nmN_no h
      have h' : ¬ (0 ≤ L.getD ((n : Int)).toNat 0) := by rw [e3, h]; decide
      repeat' (first
       | (refine s_is ?_; first
       | (refine s_isagain ?_; first
       | (exact c_again (B, e, n + 1) (by dsimp only; omega) (by dsimp only; omega) ⟨rfl, (by dsimp only; rw [h1]; rfl), rfl, trivial⟩ (fun w h => by dsimp only; rw [h1]; exact h)))
       | (refine s_isw ?_; first
       | refine c_seq ?_
       | refine c_block ?_
       | refine c_region ?_
       | refine c_skip ?_
       | (refine s_iscond ?_; first
       | (refine c_true rfl (by first | with_reducible rfl | with_reducible assumption | ((with_reducible refine decide_eq_true ?_); first | with_reducible rfl | with_reducible assumption | omega)) ?_)
       | (refine c_false rfl (by first | with_reducible rfl | with_reducible assumption | ((with_reducible refine decide_eq_false ?_); first | with_reducible assumption | omega)) ?_))))
       | (refine z_isnil ?_; first
       | refine z_list ?_)
       | (refine z_isop ?_; first
       | (refine z_isbin ?_; first
       | (refine z_isb .add ?_; first
       | refine o_add rfl rfl (by omega) (by omega) (by decide) ?_)
       | (refine z_isb .lss ?_; first
       | refine o_lt rfl rfl (by decide) ?_)
       | (refine z_isb .geq ?_; first
       | refine o_ge rfl rfl (by decide) ?_))
       | (refine z_isload ?_; first
       | (refine z_ld1 tabOk rfl rfl ?_; first
       | refine o_loads tabOk (by first | exact Rds.cons _ (Rds.cons _ hrd) | exact Rds.cons _ hrd | exact hrd | exact own_rds 0 rfl | exact own_rds 1 rfl | exact own_rds 2 rfl | assumption) rfl rfl rfl (by first | exact il_at _ (by omega) | rfl | rfl) (by decide) ?_))
       | (refine z_isix ?_; first
       | refine o_indexs1 tabOk (by first | exact hne (by omega) | assumption) rfl rfl rfl rfl (by omega) (by omega) (by decide) ?_)
       | (refine z_isbi ?_; first
       | refine o_len tabOk rfl rfl (by decide) ?_)
       | refine o_move rfl (by decide) ?_
       | refine o_assign rfl (by decide) ?_))
    · have h1 := nmN_yes h
      have h' : 0 ≤ L.getD ((n : Int)).toNat 0 := by rw [e3]; omega
      repeat' (first
       | (refine s_is ?_; first
       | (refine s_isagain ?_; first
       | (exact c_again (A', c', n + 1) (by dsimp only; omega) (by dsimp only; omega) ⟨rfl, (by dsimp only; rw [h1, List.length_append]; rfl), rfl, trivial⟩ (fun w h => by dsimp only; rw [h1, il_add, List.length_append]; exact ((h.sel 2 [0, 1] (by decide)).mask [true, false]))))
       | (refine s_isw ?_; first
       | refine c_seq ?_
       | refine c_block ?_
       | refine c_region ?_
       | refine c_skip ?_
       | (refine s_iscond ?_; first
       | (refine c_true rfl (by first | with_reducible rfl | with_reducible assumption | ((with_reducible refine decide_eq_true ?_); first | with_reducible rfl | with_reducible assumption | omega)) ?_))))
       | (refine z_isnil ?_; first
       | refine z_list ?_)
       | (refine z_isop ?_; first
       | (refine z_isbin ?_; first
       | (refine z_isb .add ?_; first
       | refine o_add rfl rfl (by omega) (by omega) (by decide) ?_)
       | (refine z_isb .lss ?_; first
       | refine o_lt rfl rfl (by decide) ?_)
       | (refine z_isb .geq ?_; first
       | refine o_ge rfl rfl (by decide) ?_))
       | (refine z_isload ?_; first
       | (refine z_ld1 tabOk rfl rfl ?_; first
       | refine o_loads tabOk (by first | exact Rds.cons _ (Rds.cons _ hrd) | exact Rds.cons _ hrd | exact hrd | exact own_rds 0 rfl | exact own_rds 1 rfl | exact own_rds 2 rfl | assumption) rfl rfl rfl (by first | exact il_at _ (by omega) | rfl | rfl) (by decide) ?_))
       | (refine z_ismakes ?_; first
       | refine o_make1 rfl tabOk zeroOk rfl rfl rfl rfl rfl (by decide) fun g => ?_)
       | (refine z_isix ?_; first
       | refine o_indexs1 tabOk (by first | exact hne (by omega) | assumption) rfl rfl rfl rfl (by omega) (by omega) (by decide) ?_)
       | (refine z_isbi ?_; first
       | refine o_len tabOk rfl rfl (by decide) ?_
       | (refine z_front rfl 1 rfl ?_; refine o_append rfl tabOk zeroOk rfl rfl rfl rfl rfl rfl (by first | exact Rds.cons _ (Rds.cons _ hrd) | exact Rds.cons _ hrd | exact hrd | exact own_rds 0 rfl | exact own_rds 1 rfl | exact own_rds 2 rfl | assumption) (by first | rfl | (simp; done) | rfl | (simp; done)) (by first | rfl | (simp; done)) (by omega) (by omega) (by decide) fun A' c' => ?_))
       | refine o_move rfl (by decide) ?_
       | refine o_assign rfl (by decide) ?_))
  · obtain rfl : n = L.length := by omega
    repeat' (first
     | (refine s_is ?_; first
     | (refine s_isret ?_; first
     | exact f_r1 rfl (res_t rfl) (B, e) trivial rfl (fun w h => h))
     | (refine s_isw ?_; first
     | refine c_seq ?_
     | refine c_region ?_
     | refine c_ret ?_
     | refine c_exit ?_
     | (refine s_iscond ?_; first
     | (refine c_false rfl (by first | with_reducible rfl | with_reducible assumption | ((with_reducible refine decide_eq_false ?_); first | with_reducible assumption | omega)) ?_))))
     | (refine z_isnil ?_; first
     | refine z_list ?_)
     | (refine z_isop ?_; first
     | (refine z_isbin ?_; first
     | (refine z_isb .lss ?_; first
     | refine o_lt rfl rfl (by decide) ?_))
     | (refine z_isbi ?_; first
     | refine o_len tabOk rfl rfl (by decide) ?_)
     | refine o_move rfl (by decide) ?_
     | refine o_assign rfl (by decide) ?_))
theorem tlen_c (L : List Int) (A : Option Addr) (c : Nat) (fr : List Chunk) (hrd : Rds fr A (il L)) (hx : L.length ≤ 1000000) : Does Try.prog 35 [.agg #[.slice A L.length c]] fr (fun _ : Unit => True) (fun _ => .int .i64 (nmN L L.length).length) (fun _ => fr) := by
  intro w hw
  refine f_enter Try.func35 rfl Try.ntmps35 rfl hw ?_
  repeat' (first
   | (refine s_is ?_; first
   | (refine s_isret ?_; first
   | exact f_r1 rfl (res_t rfl) () trivial rfl (fun w h => ((h.sel 2 [0, 1] (by decide)).mask [false, false])))
   | (refine s_isw ?_; first
   | refine c_seq ?_
   | refine c_region ?_
   | refine c_ret ?_))
   | (refine z_isnil ?_; first
   | refine z_list ?_)
   | (refine z_isop ?_; first
   | refine o_boxa (vs := [.slice A L.length c]) rfl rfl (by decide) fun g => ?_
   | (refine z_isload ?_; first
   | (refine z_ldw tabOk rfl rfl ?_; first
   | (refine o_loadwm tabOk rfl rfl rfl (by repeat' (first | exact List.mem_cons_self | apply List.mem_cons_of_mem)) (by first | rfl | exact il_len _ | (simp only [il_len]; done) | rfl) (by decide) ?_)))
   | (refine z_iscall ?_; first
   | ((refine z_iscallf 40 ?_; refine o_calla Try.func40 rfl rfl rfl (names_c L _ _ _ (Rds.cons _ hrd) hx) (by decide) fun x _ => ?_)))
   | (refine z_isbi ?_; first
   | refine o_len tabOk rfl rfl (by decide) ?_)
   | refine o_assign rfl (by decide) ?_))
end Go.Proofs.Ytjjhlkjnjbagfaa
