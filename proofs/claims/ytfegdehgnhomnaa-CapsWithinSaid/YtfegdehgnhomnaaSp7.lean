/-
Span: the document's numbers and rows; lists alike.
-/
import Derived.Test.YtfegdehgnhomnaaSp6
namespace Go.Proofs.Ytfegdehgnhomnaa
set_option linter.unusedVariables false
set_option linter.unusedSimpArgs false
open Eng
attribute [local irreducible] Eng.Hold Eng.Z Eng.S Eng.cells Eng.old Eng.own rc rcs at' hasB Sep lastTo push
attribute [local irreducible] cmpR lenN ofR en mg cu ilS rg nm bs pt al rr
theorem ilS_ne {fr : List Chunk} {A : Option Addr} {L : List Int} {w : World} (hrd : Rds fr A (ilS L)) (hw : Pre w fr) : 0 < L.length → A ≠ none := fun h => hrd.ne hw (by rw [ilS_len]; exact h)
theorem ssame_c (L : List Int) (A B : Option Addr) (c e : Nat) (fr : List Chunk) (hrd : Rds fr A (ilS L)) (hrd2 : Rds fr B (ilS L)) (hx : L.length ≤ 9223372036854775807) : Does Try.prog 34 [.slice A L.length c, .slice B L.length e] fr (fun _ : Unit => True) (fun _ => .bool true) (fun _ => fr) := by
  intro w hw
  have hne := ilS_ne hrd hw
  have hne2 := ilS_ne hrd2 hw
  refine f_enter Try.func34 rfl Try.ntmps34 rfl hw ?_
  repeat' (first
   | (refine s_is ?_; first
   | (refine s_isw ?_; first
   | (refine s_isloop ?_; first
   | ((refine c_loop (X := Nat) (fun k => k ≤ L.length) (fun k => [(0, .slice A L.length c), (1, .slice B L.length e), (5, .int .i64 k)]) (fun _ => fr) (fun k => L.length - k) 0 (Nat.zero_le _) ⟨rfl, rfl, rfl, trivial⟩ (fun w h => h) (fun k hk => ?_); refine hold ?_)))
   | refine c_seq ?_
   | refine c_block ?_
   | refine c_region ?_
   | refine c_skip ?_
   | (refine s_iscond ?_; first
   | (refine c_false rfl (by first | with_reducible rfl | with_reducible assumption | ((with_reducible refine decide_eq_false ?_); first | with_reducible assumption | omega)) ?_))))
   | (refine z_isnil ?_; first
   | refine z_list ?_)
   | (refine z_isop ?_; first
   | (refine z_isbin ?_; first
   | (refine z_isb .neq ?_; first
   | refine o_ne rfl rfl (by decide) ?_))
   | (refine z_isbi ?_; first
   | refine o_len tabOk rfl rfl (by decide) ?_)
   | refine o_move rfl (by decide) ?_
   | refine o_assign rfl (by decide) ?_))
  refine Hold.go ?_
  by_cases hl : k < L.length
  · skip
    repeat' (first
     | (refine s_is ?_; first
     | (refine s_isagain ?_; first
     | exact c_again (k + 1) (by omega) (by omega) ⟨rfl, rfl, rfl, trivial⟩ (fun w h => h))
     | (refine s_isw ?_; first
     | refine c_seq ?_
     | refine c_block ?_
     | refine c_region ?_
     | refine c_mixed mixed (by kernel_rfl) ?_
     | refine c_skip ?_
     | (refine s_iscond ?_; first
     | (refine c_true rfl (by first | with_reducible rfl | with_reducible assumption | ((with_reducible refine decide_eq_true ?_); first | with_reducible rfl | with_reducible assumption | omega)) ?_)
     | (refine c_false rfl (by first | with_reducible rfl | with_reducible assumption | ((with_reducible refine decide_eq_false ?_); first | with_reducible assumption | omega)) ?_))))
     | (refine z_isnil ?_; first
     | refine z_list ?_
     | refine z_mixed ?_)
     | (refine z_isop ?_; first
     | refine o_indexs1 tabOk (hne2 (by omega)) rfl rfl rfl rfl (by omega) (by omega) (by decide) ?_
     | (refine z_isbin ?_; first
     | (refine z_isb .add ?_; first
     | refine o_add rfl rfl (by omega) (by omega) (by decide) ?_)
     | (refine z_isb .neq ?_; first
     | refine o_ne rfl rfl (by decide) ?_)
     | (refine z_isb .lss ?_; first
     | refine o_lt rfl rfl (by decide) ?_))
     | (refine z_isload ?_; first
     | refine o_loads tabOk hrd2 rfl rfl rfl (ilS_at (by omega)) (by decide) ?_
     | (refine z_ld1 tabOk rfl rfl ?_; first
     | refine o_loads tabOk (by first | exact hrd | exact hrd2 | assumption) rfl rfl rfl (by first | exact ilS_at (by omega) | rfl | rfl) (by decide) ?_))
     | (refine z_isix ?_; first
     | refine o_indexs1 tabOk (by first | exact hne (by omega) | assumption) rfl rfl rfl rfl (by omega) (by omega) (by decide) ?_)
     | (refine z_isbi ?_; first
     | refine o_len tabOk rfl rfl (by decide) ?_)
     | refine o_move rfl (by decide) ?_
     | refine o_assign rfl (by decide) ?_))
  · obtain rfl : k = L.length := by omega
    repeat' (first
     | (refine s_is ?_; first
     | (refine s_isret ?_; first
     | exact f_r1 rfl (res_t rfl) () trivial rfl (fun w h => h))
     | (refine s_isw ?_; first
     | refine c_seq ?_
     | refine c_region ?_
     | refine c_ret ?_
     | refine c_exit ?_
     | (refine s_iscond ?_; first
     | (refine c_false rfl (by first | with_reducible rfl | with_reducible assumption | ((with_reducible refine decide_eq_false ?_); first | with_reducible assumption | omega)) ?_))))
     | (refine z_isnil ?_; first
     | refine z_list ?_)
     | (refine z_isop ?_; first
     | (refine z_isbin ?_; first
     | (refine z_isb .lss ?_; first
     | refine o_lt rfl rfl (by decide) ?_))
     | (refine z_isbi ?_; first
     | refine o_len tabOk rfl rfl (by decide) ?_)
     | refine o_move rfl (by decide) ?_
     | refine o_assign rfl (by decide) ?_))
theorem rall_c (s : Nat → Bool) (fr : List Chunk) : Does Try.prog 36 [.agg (bs s).toArray] fr (fun _ : Option Addr × Nat => True) (fun x => .slice x.1 (al s 1024).length x.2) (fun x => own x.1 x.2 3 1 (al s 1024).length (ilS (al s 1024)) :: fr) := by
  intro w hw
  refine f_enter Try.func36 rfl Try.ntmps36 rfl hw ?_
  repeat' (first
   | (refine s_is ?_; first
   | (refine s_isw ?_; first
   | (refine s_isloop ?_; first
   | ((refine c_loop (X := Option Addr × Nat × Nat) (fun y => y.2.2 ≤ 1024) (fun y => [(1, .pointer (some ⟨ga, 0, none⟩)), (3, .slice y.1 (al s y.2.2).length y.2.1), (4, .int .i64 y.2.2)]) (fun y => own y.1 y.2.1 3 1 (al s y.2.2).length (ilS (al s y.2.2)) :: cells ga 36 (bs s) :: fr) (fun y => 1024 - y.2.2) (none, 0, 0) (Nat.zero_le _) ⟨rfl, (by dsimp only; rw [al_zero]; rfl), rfl, trivial⟩ (fun w h => by dsimp only; rw [al_zero, ilS_nil]; exact h.nil 3 1) (fun y hi => ?_); obtain ⟨B, e, n⟩ := y; dsimp only at hi ⊢; refine hold ?_)))
   | refine c_seq ?_
   | refine c_block ?_
   | refine c_region ?_))
   | (refine z_isnil ?_; first
   | refine z_list ?_)
   | (refine z_isop ?_; first
   | refine o_boxa (vs := bs s) rfl rfl (by decide) fun ga => ?_
   | refine o_assign rfl (by decide) ?_))
  refine Hold.go ?_
  have hl := al_le s n
  by_cases h7 : n < 1024
  · cases hs : s n with
    | true =>
      have h1 := al_yes hs
      repeat' (first
       | (refine s_is ?_; first
       | (refine s_isagain ?_; first
       | (exact c_again (A', c', n + 1) (by dsimp only; omega) (by dsimp only; omega) ⟨rfl, (by dsimp only; rw [h1, List.length_append]; rfl), rfl, trivial⟩ (fun w h => by dsimp only; rw [h1, ilS_one, List.length_append]; exact ((h.sel 3 [0, 2, 1] (by decide)).mask [true, true, false]))))
       | (refine s_isw ?_; first
       | refine c_seq ?_
       | refine c_block ?_
       | refine c_region ?_
       | refine c_skip ?_
       | (refine s_iscond ?_; first
       | (refine c_true rfl (by first | with_reducible rfl | with_reducible assumption | ((with_reducible refine decide_eq_true ?_); first | with_reducible rfl | with_reducible assumption | omega)) ?_))))
       | (refine z_isnil ?_; first
       | refine z_list ?_)
       | (refine z_isop ?_; first
       | (refine z_isbin ?_; first
       | (refine z_isb .add ?_; first
       | refine o_add rfl rfl (by omega) (by omega) (by decide) ?_)
       | (refine z_isb .lss ?_; first
       | refine o_lt rfl rfl (by decide) ?_))
       | (refine z_isload ?_; first
       | (refine z_ld1 tabOk rfl rfl ?_; first
       | refine o_loadm tabOk rfl rfl rfl (by repeat' (first | exact List.mem_cons_self | apply List.mem_cons_of_mem)) (by first | exact bs_atk _ (by omega) | exact rc_last hon | rfl | rfl) (by decide) ?_))
       | (refine z_ismakes ?_; first
       | refine o_make1 rfl tabOk zeroOk rfl rfl rfl rfl rfl (by decide) fun g => ?_)
       | (refine z_isix ?_; first
       | refine o_index0 tabOk rfl rfl rfl rfl (by omega) (by omega) (by decide) ?_)
       | (refine z_isbi ?_; first
       | (refine z_front rfl 1 rfl ?_; refine o_append rfl tabOk zeroOk rfl rfl rfl rfl rfl rfl (by first | exact own_rds 0 rfl | exact own_rds 1 rfl | exact own_rds 2 rfl | assumption) (by first | rfl | (simp; done)) (by first | rfl | (simp; done)) (by omega) (by omega) (by decide) fun A' c' => ?_))
       | refine o_move rfl (by decide) ?_
       | refine o_assign rfl (by decide) ?_))
    | false =>
      have h1 := al_no hs
      repeat' (first
       | (refine s_is ?_; first
       | (refine s_isagain ?_; first
       | (exact c_again (B, e, n + 1) (by dsimp only; omega) (by dsimp only; omega) ⟨rfl, (by dsimp only; rw [h1]; rfl), rfl, trivial⟩ (fun w h => by dsimp only; rw [h1]; exact h)))
       | (refine s_isw ?_; first
       | refine c_seq ?_
       | refine c_block ?_
       | refine c_region ?_
       | refine c_skip ?_
       | (refine s_iscond ?_; first
       | (refine c_true rfl (by first | with_reducible rfl | with_reducible assumption | ((with_reducible refine decide_eq_true ?_); first | with_reducible rfl | with_reducible assumption | omega)) ?_)
       | (refine c_false rfl (by first | with_reducible rfl | with_reducible assumption | ((with_reducible refine decide_eq_false ?_); first | with_reducible assumption | omega)) ?_))))
       | (refine z_isnil ?_; first
       | refine z_list ?_)
       | (refine z_isop ?_; first
       | (refine z_isbin ?_; first
       | (refine z_isb .add ?_; first
       | refine o_add rfl rfl (by omega) (by omega) (by decide) ?_)
       | (refine z_isb .lss ?_; first
       | refine o_lt rfl rfl (by decide) ?_))
       | (refine z_isload ?_; first
       | (refine z_ld1 tabOk rfl rfl ?_; first
       | refine o_loadm tabOk rfl rfl rfl (by repeat' (first | exact List.mem_cons_self | apply List.mem_cons_of_mem)) (by first | exact bs_atk _ (by omega) | exact rc_last hon | rfl | rfl) (by decide) ?_))
       | (refine z_isix ?_; first
       | refine o_index0 tabOk rfl rfl rfl rfl (by omega) (by omega) (by decide) ?_)
       | refine o_move rfl (by decide) ?_
       | refine o_assign rfl (by decide) ?_))
  · obtain rfl : n = 1024 := by omega
    repeat' (first
     | (refine s_is ?_; first
     | (refine s_isret ?_; first
     | exact f_r1 rfl (res_t rfl) (B, e) trivial rfl (fun w h => ((h.sel 2 [0, 1] (by decide)).mask [true, false])))
     | (refine s_isw ?_; first
     | refine c_seq ?_
     | refine c_region ?_
     | refine c_ret ?_
     | refine c_exit ?_
     | (refine s_iscond ?_; first
     | (refine c_false rfl (by first | with_reducible rfl | with_reducible assumption | ((with_reducible refine decide_eq_false ?_); first | with_reducible assumption | omega)) ?_))))
     | (refine z_isnil ?_; first
     | refine z_list ?_)
     | (refine z_isop ?_; first
     | (refine z_isbin ?_; first
     | (refine z_isb .lss ?_; first
     | refine o_lt rfl rfl (by decide) ?_))
     | refine o_move rfl (by decide) ?_
     | refine o_assign rfl (by decide) ?_))
set_option maxHeartbeats 4000000 in
theorem rrows_c (s : Nat → Bool) (fr : List Chunk) : Does Try.prog 49 [.agg (bs s).toArray] fr (fun _ : Option Addr × Nat => True) (fun x => .slice x.1 (rr s 1024).length x.2) (fun x => own x.1 x.2 102 2 (rr s 1024).length (rc (rr s 1024)) :: fr) := by
  intro w hw
  refine f_enter Try.func49 rfl Try.ntmps49 rfl hw ?_
  repeat' (first
   | (refine s_is ?_; first
   | (refine s_isw ?_; first
   | (refine s_isloop ?_; first
   | ((refine c_loop (X := Option Addr × Nat × Nat) (fun y => y.2.2 ≤ 1024) (fun y => [(1, .pointer (some ⟨ga, 0, none⟩)), (3, .slice y.1 (rr s y.2.2).length y.2.1), (4, .int .i64 y.2.2)]) (fun y => own y.1 y.2.1 102 2 (rr s y.2.2).length (rc (rr s y.2.2)) :: cells ga 36 (bs s) :: fr) (fun y => 1024 - y.2.2) (none, 0, 0) (Nat.zero_le _) ⟨rfl, (by dsimp only; rw [rr_zero]; rfl), rfl, trivial⟩ (fun w h => by dsimp only; rw [rr_zero, rc_nil]; exact h.nil 102 2) (fun y hi => ?_); obtain ⟨D, d, n⟩ := y; dsimp only at hi ⊢; refine c_own2 0 rfl fun hkc hneD => ?_; refine hold ?_)))
   | refine c_seq ?_
   | refine c_block ?_
   | refine c_region ?_))
   | (refine z_isnil ?_; first
   | refine z_list ?_)
   | (refine z_isop ?_; first
   | refine o_boxa (vs := bs s) rfl rfl (by decide) fun ga => ?_
   | refine o_assign rfl (by decide) ?_))
  refine Hold.go ?_
  obtain ⟨s1, s2, s3⟩ := rr_spec s n
  have hlen := sep_len s1
  by_cases h7 : n < 1024
  · cases hs : s n with
    | true =>
      have h1 := rr_yes hs
      generalize hO : rr s n = O at *
      by_cases hon : O ≠ []
      · have hol := last_nn hon
        by_cases hla : lastTo (-1) O = (n : Int)
        · obtain ⟨hp1, hp2⟩ := rc_push hon hla ((n : Int) + 1)
          repeat' (first
           | ((refine z_isdst 21 ?_; refine o_indexsn tabOk (hneD (by omega)) rfl rfl rfl rfl (by omega) (by omega) (by decide) ?_))
           | ((refine z_isdst 33 ?_; refine o_indexsn tabOk (hneD (by omega)) rfl rfl rfl rfl (by omega) (by omega) (by decide) ?_))
           | ((refine z_isdst 22 ?_; refine o_indexas (hneD (by omega)) tabOk rfl rfl rfl rfl (by omega) (by omega) (by decide) ?_))
           | ((refine z_isdst 34 ?_; refine o_indexas (hneD (by omega)) tabOk rfl rfl rfl rfl (by omega) (by omega) (by decide) ?_))
           | (refine s_is ?_; first
           | (refine s_isagain ?_; first
           | (exact c_again (D, d, n + 1) (by dsimp only; omega) (by dsimp only; omega) ⟨rfl, (by dsimp only; rw [h1, hp2]; rfl), rfl, trivial⟩ (fun w h => by dsimp only; rw [h1, ← hp1, hp2]; exact h)))
           | (refine s_isw ?_; first
           | refine c_seq ?_
           | refine c_block ?_
           | refine c_region ?_
           | refine c_skip ?_
           | (refine s_iscond ?_; first
           | (refine c_true rfl (by first | with_reducible rfl | with_reducible assumption | ((with_reducible refine decide_eq_true ?_); first | with_reducible rfl | with_reducible assumption | omega)) ?_)
           | (refine c_false rfl (by first | (simp only [Bool.not_eq_false', decide_eq_true_eq]; omega) | (with_reducible assumption) | (rw [decide_eq_false] <;> (first | omega | with_reducible rfl)) | (rw [decide_eq_true] <;> (first | omega | with_reducible rfl)) | (simp; done) | (simp; omega)) ?_))))
           | (refine z_isg1 ?_; first
           | (refine z_want1 rfl rfl (by first | with_reducible rfl | with_reducible assumption | ((with_reducible refine decide_eq_true ?_); first | with_reducible rfl | with_reducible assumption | omega)) ?_))
           | (refine z_isnil ?_; first
           | refine z_list ?_)
           | (refine z_isop ?_; first
           | (refine z_isbin ?_; first
           | (refine z_isb .add ?_; first
           | refine o_add rfl rfl (by omega) (by omega) (by decide) ?_)
           | (refine z_isb .sub ?_; first
           | refine o_sub rfl rfl (by omega) (by omega) (by decide) ?_)
           | (refine z_isb .eql ?_; first
           | refine o_eq rfl rfl (by decide) ?_)
           | (refine z_isb .lss ?_; first
           | refine o_lt rfl rfl (by decide) ?_)
           | (refine z_isb .gtr ?_; first
           | refine o_gt rfl rfl (by decide) ?_))
           | (refine z_isload ?_; first
           | (refine z_ld1 tabOk rfl rfl ?_; first
           | refine o_loadm tabOk rfl rfl rfl (by repeat' (first | exact List.mem_cons_self | apply List.mem_cons_of_mem)) (by first | exact bs_atk _ (by omega) | exact rc_last hon | rfl | rfl) (by decide) ?_
           | refine o_loads tabOk (by first | exact own_rds 0 rfl | exact own_rds 1 rfl | exact own_rds 2 rfl | assumption) rfl rfl rfl (by first | exact bs_atk _ (by omega) | exact rc_last hon | rfl | rfl) (by decide) ?_))
           | (refine z_isstore ?_; first
           | (refine o_stores rfl 0 tabOk rfl rfl rfl rfl rfl rfl (by rw [rc_len]; show ((O.length : Int) - 1).toNat * 2 + 1 < _; omega) ?_))
           | (refine z_ispick ?_; first
           | (refine o_pick1 rfl (by first | with_reducible rfl | with_reducible assumption | ((with_reducible refine decide_eq_true ?_); first | with_reducible rfl | with_reducible assumption | omega)) rfl (by decide) ?_))
           | (refine z_isix ?_; first
           | refine o_index0 tabOk rfl rfl rfl rfl (by omega) (by omega) (by decide) ?_)
           | (refine z_isbi ?_; first
           | refine o_len tabOk rfl rfl (by decide) ?_)
           | refine o_move rfl (by decide) ?_
           | refine o_assign rfl (by decide) ?_
           | refine o_not rfl (by decide) ?_))
        · have hpn : ¬ (lastTo (-1) O = (n : Int) ∧ O ≠ []) := fun e => hla e.1
          have hp := push_new (t := (n : Int) + 1) hpn
          repeat' (first
           | ((refine z_isdst 39 ?_; refine o_build (v := .agg #[.int .i64 (n : Int), .int .i64 ((n : Int) + 1)]) rfl (fun _ => by kernel_rfl) (by decide) ?_))
           | ((refine z_isdst 21 ?_; refine o_indexsn tabOk (hneD (by omega)) rfl rfl rfl rfl (by omega) (by omega) (by decide) ?_))
           | ((refine z_isdst 22 ?_; refine o_indexas (hneD (by omega)) tabOk rfl rfl rfl rfl (by omega) (by omega) (by decide) ?_))
           | (refine s_is ?_; first
           | (refine s_isagain ?_; first
           | (exact c_again (A', c', n + 1) (by dsimp only; omega) (by dsimp only; omega) ⟨rfl, (by dsimp only; rw [h1, hp, List.length_append]; rfl), rfl, trivial⟩ (fun w h => by dsimp only; rw [h1, hp, rc_add, rcs_mk, List.length_append]; exact ((h.sel 3 [0, 2, 1] (by decide)).mask [true, true, false]))))
           | (refine s_isw ?_; first
           | refine c_seq ?_
           | refine c_block ?_
           | refine c_region ?_
           | refine c_skip ?_
           | (refine s_iscond ?_; first
           | (refine c_true rfl (by first | with_reducible rfl | with_reducible assumption | ((with_reducible refine decide_eq_true ?_); first | with_reducible rfl | with_reducible assumption | omega)) ?_)
           | (refine c_false rfl (by first | with_reducible rfl | with_reducible assumption | ((with_reducible refine decide_eq_false ?_); first | with_reducible assumption | omega)) ?_)
           | (refine c_false rfl (by first | (simp only [Bool.not_eq_false', decide_eq_true_eq]; omega) | (with_reducible assumption) | (rw [decide_eq_false] <;> (first | omega | with_reducible rfl)) | (rw [decide_eq_true] <;> (first | omega | with_reducible rfl)) | (simp; done) | (simp; omega)) ?_))))
           | (refine z_isg1 ?_; first
           | (refine z_want1 rfl rfl (by first | with_reducible rfl | with_reducible assumption | ((with_reducible refine decide_eq_true ?_); first | with_reducible rfl | with_reducible assumption | omega)) ?_))
           | (refine z_isnil ?_; first
           | refine z_list ?_)
           | (refine z_isop ?_; first
           | (refine o_makew (vs := [.int .i64 (n : Int), .int .i64 ((n : Int) + 1)]) rfl tabOk zeroOk rfl rfl rfl rfl rfl rfl rfl (by decide) fun gn => ?_)
           | (refine z_isbin ?_; first
           | (refine z_isb .add ?_; first
           | refine o_add rfl rfl (by omega) (by omega) (by decide) ?_)
           | (refine z_isb .sub ?_; first
           | refine o_sub rfl rfl (by omega) (by omega) (by decide) ?_)
           | (refine z_isb .eql ?_; first
           | refine o_eq rfl rfl (by decide) ?_)
           | (refine z_isb .lss ?_; first
           | refine o_lt rfl rfl (by decide) ?_)
           | (refine z_isb .gtr ?_; first
           | refine o_gt rfl rfl (by decide) ?_))
           | (refine z_isload ?_; first
           | (refine z_ld1 tabOk rfl rfl ?_; first
           | refine o_loadm tabOk rfl rfl rfl (by repeat' (first | exact List.mem_cons_self | apply List.mem_cons_of_mem)) (by first | exact bs_atk _ (by omega) | exact rc_last hon | rfl | rfl) (by decide) ?_
           | refine o_loads tabOk (by first | exact own_rds 0 rfl | exact own_rds 1 rfl | exact own_rds 2 rfl | assumption) rfl rfl rfl (by first | exact bs_atk _ (by omega) | exact rc_last hon | rfl | rfl) (by decide) ?_))
           | (refine z_ispick ?_; first
           | (refine o_pick1 rfl (by first | with_reducible rfl | with_reducible assumption | ((with_reducible refine decide_eq_true ?_); first | with_reducible rfl | with_reducible assumption | omega)) rfl (by decide) ?_))
           | (refine z_isix ?_; first
           | refine o_index0 tabOk rfl rfl rfl rfl (by omega) (by omega) (by decide) ?_)
           | (refine z_isbi ?_; first
           | refine o_len tabOk rfl rfl (by decide) ?_
           | (refine z_front rfl 1 rfl ?_; refine o_append rfl tabOk zeroOk rfl rfl rfl rfl rfl rfl (by first | exact own_rds 0 rfl | exact own_rds 1 rfl | exact own_rds 2 rfl | assumption) (by first | rfl | (simp; done)) (by first | rfl | (simp; done)) (by omega) (by omega) (by decide) fun A' c' => ?_))
           | refine o_move rfl (by decide) ?_
           | refine o_assign rfl (by decide) ?_
           | refine o_not rfl (by decide) ?_))
      · have hol : O.length = 0 := by
          cases O with
          | nil => rfl
          | cons r O => exact absurd (by simp) hon
        have hpn : ¬ (lastTo (-1) O = (n : Int) ∧ O ≠ []) := fun e => hon e.2
        have hp := push_new (t := (n : Int) + 1) hpn
        repeat' (first
         | ((refine z_isdst 39 ?_; refine o_build (v := .agg #[.int .i64 (n : Int), .int .i64 ((n : Int) + 1)]) rfl (fun _ => by kernel_rfl) (by decide) ?_))
         | (refine s_is ?_; first
         | (refine s_isagain ?_; first
         | (exact c_again (A', c', n + 1) (by dsimp only; omega) (by dsimp only; omega) ⟨rfl, (by dsimp only; rw [h1, hp, List.length_append]; rfl), rfl, trivial⟩ (fun w h => by dsimp only; rw [h1, hp, rc_add, rcs_mk, List.length_append]; exact ((h.sel 3 [0, 2, 1] (by decide)).mask [true, true, false]))))
         | (refine s_isw ?_; first
         | refine c_seq ?_
         | refine c_block ?_
         | refine c_region ?_
         | refine c_skip ?_
         | (refine s_iscond ?_; first
         | (refine c_true rfl (by first | with_reducible rfl | with_reducible assumption | ((with_reducible refine decide_eq_true ?_); first | with_reducible rfl | with_reducible assumption | omega)) ?_)
         | (refine c_false rfl (by first | with_reducible rfl | with_reducible assumption | ((with_reducible refine decide_eq_false ?_); first | with_reducible assumption | omega)) ?_)
         | (refine c_false rfl (by first | (simp only [Bool.not_eq_false', decide_eq_true_eq]; omega) | (with_reducible assumption) | (rw [decide_eq_false] <;> (first | omega | with_reducible rfl)) | (rw [decide_eq_true] <;> (first | omega | with_reducible rfl)) | (simp; done) | (simp; omega)) ?_))))
         | (refine z_isg1 ?_; first
         | (refine z_skip1 (by decide) rfl rfl (by first | with_reducible rfl | with_reducible assumption | ((with_reducible refine decide_eq_false ?_); first | with_reducible assumption | omega)) ?_))
         | (refine z_isnil ?_; first
         | refine z_list ?_)
         | (refine z_isop ?_; first
         | (refine o_makew (vs := [.int .i64 (n : Int), .int .i64 ((n : Int) + 1)]) rfl tabOk zeroOk rfl rfl rfl rfl rfl rfl rfl (by decide) fun gn => ?_)
         | (refine z_isbin ?_; first
         | (refine z_isb .add ?_; first
         | refine o_add rfl rfl (by omega) (by omega) (by decide) ?_)
         | (refine z_isb .lss ?_; first
         | refine o_lt rfl rfl (by decide) ?_)
         | (refine z_isb .gtr ?_; first
         | refine o_gt rfl rfl (by decide) ?_))
         | (refine z_isload ?_; first
         | (refine z_ld1 tabOk rfl rfl ?_; first
         | refine o_loadm tabOk rfl rfl rfl (by repeat' (first | exact List.mem_cons_self | apply List.mem_cons_of_mem)) (by first | exact bs_atk _ (by omega) | exact rc_last hon | rfl | rfl) (by decide) ?_))
         | (refine z_ispick ?_; first
         | (refine o_pick0 rfl (by first | with_reducible rfl | with_reducible assumption | ((with_reducible refine decide_eq_false ?_); first | with_reducible assumption | omega)) rfl (by decide) ?_))
         | (refine z_isix ?_; first
         | refine o_index0 tabOk rfl rfl rfl rfl (by omega) (by omega) (by decide) ?_)
         | (refine z_isbi ?_; first
         | refine o_len tabOk rfl rfl (by decide) ?_
         | (refine z_front rfl 1 rfl ?_; refine o_append rfl tabOk zeroOk rfl rfl rfl rfl rfl rfl (by first | exact own_rds 0 rfl | exact own_rds 1 rfl | exact own_rds 2 rfl | assumption) (by first | rfl | (simp; done)) (by first | rfl | (simp; done)) (by omega) (by omega) (by decide) fun A' c' => ?_))
         | refine o_move rfl (by decide) ?_
         | refine o_assign rfl (by decide) ?_
         | refine o_not rfl (by decide) ?_))
    | false =>
      have h1 := rr_no hs
      repeat' (first
       | (refine s_is ?_; first
       | (refine s_isagain ?_; first
       | (exact c_again (D, d, n + 1) (by dsimp only; omega) (by dsimp only; omega) ⟨rfl, (by dsimp only; rw [h1]; rfl), rfl, trivial⟩ (fun w h => by dsimp only; rw [h1]; exact h)))
       | (refine s_isw ?_; first
       | refine c_seq ?_
       | refine c_block ?_
       | refine c_region ?_
       | refine c_skip ?_
       | refine c_exit ?_
       | (refine s_iscond ?_; first
       | (refine c_true rfl (by first | with_reducible rfl | with_reducible assumption | ((with_reducible refine decide_eq_true ?_); first | with_reducible rfl | with_reducible assumption | omega)) ?_)
       | (refine c_true rfl (by first | (simp only [Bool.not_eq_true', decide_eq_false_iff_not]; omega) | (with_reducible assumption) | (rw [decide_eq_false] <;> (first | omega | with_reducible rfl)) | (rw [decide_eq_true] <;> (first | omega | with_reducible rfl)) | (simp; done) | (simp; omega)) ?_))))
       | (refine z_isnil ?_; first
       | refine z_list ?_)
       | (refine z_isop ?_; first
       | (refine z_isbin ?_; first
       | (refine z_isb .add ?_; first
       | refine o_add rfl rfl (by omega) (by omega) (by decide) ?_)
       | (refine z_isb .lss ?_; first
       | refine o_lt rfl rfl (by decide) ?_))
       | (refine z_isload ?_; first
       | (refine z_ld1 tabOk rfl rfl ?_; first
       | refine o_loadm tabOk rfl rfl rfl (by repeat' (first | exact List.mem_cons_self | apply List.mem_cons_of_mem)) (by first | exact bs_atk _ (by omega) | exact rc_last hon | rfl | rfl) (by decide) ?_))
       | (refine z_isix ?_; first
       | refine o_index0 tabOk rfl rfl rfl rfl (by omega) (by omega) (by decide) ?_)
       | refine o_move rfl (by decide) ?_
       | refine o_assign rfl (by decide) ?_
       | refine o_not rfl (by decide) ?_))
  · obtain rfl : n = 1024 := by omega
    repeat' (first
     | (refine s_is ?_; first
     | (refine s_isret ?_; first
     | exact f_r1 rfl (res_t rfl) (D, d) trivial rfl (fun w h => ((h.sel 2 [0, 1] (by decide)).mask [true, false])))
     | (refine s_isw ?_; first
     | refine c_seq ?_
     | refine c_region ?_
     | refine c_ret ?_
     | refine c_exit ?_
     | (refine s_iscond ?_; first
     | (refine c_false rfl (by first | with_reducible rfl | with_reducible assumption | ((with_reducible refine decide_eq_false ?_); first | with_reducible assumption | omega)) ?_))))
     | (refine z_isnil ?_; first
     | refine z_list ?_)
     | (refine z_isop ?_; first
     | (refine z_isbin ?_; first
     | (refine z_isb .lss ?_; first
     | refine o_lt rfl rfl (by decide) ?_))
     | refine o_move rfl (by decide) ?_
     | refine o_assign rfl (by decide) ?_))
end Go.Proofs.Ytfegdehgnhomnaa
