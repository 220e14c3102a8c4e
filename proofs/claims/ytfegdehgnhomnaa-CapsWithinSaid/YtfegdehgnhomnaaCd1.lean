/-
Caps: the document's tree: how many numbers; under; what is lent; a tree is made.
-/
import Derived.Test.YtfegdehgnhomnaaCd
namespace Go.Proofs.Ytfegdehgnhomnaa
set_option linter.unusedVariables false
set_option linter.unusedSimpArgs false
open Eng
attribute [local irreducible] Eng.Hold Eng.Z Eng.S Eng.cells Eng.old Eng.own rc rws tq tqn Cq.cs emp dcs dnn dt bs layS al undF isN dl
attribute [local irreducible] ofS
theorem dcount_c (s : Nat → Bool) : Pf Try.prog 42 [.agg (bs s).toArray] (.int .i64 (al s 1024).length) := by
  intro w hw
  have hal := al_le s 1024
  refine f_enter Try.func42 rfl Try.ntmps42 rfl hw ?_
  repeat' (first
   | ((refine z_isdst 4 ?_; refine o_calla Try.func36 rfl rfl rfl (rall_c s _) (by decide) fun x _ => ?_))
   | ((refine z_isdst 1 ?_; refine o_boxa (vs := bs s) rfl rfl (by decide) fun g1 => ?_))
   | (refine s_is ?_; first
   | (refine s_isret ?_; first
   | exact p_r1 rfl (res_t rfl))
   | (refine s_isw ?_; first
   | refine c_seq ?_
   | refine c_region ?_
   | refine c_ret ?_))
   | (refine z_isnil ?_; first
   | refine z_list ?_)
   | (refine z_isop ?_; first
   | (refine z_isload ?_; first
   | (refine z_ldw tabOk rfl rfl ?_; first
   | (refine o_loadwm tabOk rfl rfl rfl (by repeat' (first | exact List.mem_cons_self | apply List.mem_cons_of_mem)) (by first | rfl | exact dt_len _ _ | exact dnn_len _ | exact dcs_len _ | exact bs_len _ | (simp only [dnn_len, dcs_len, bs_len]; done) | rfl) (by decide) ?_)))
   | (refine z_isbi ?_; first
   | refine o_len tabOk rfl rfl (by decide) ?_)
   | refine o_assign rfl (by decide) ?_))
theorem dunder_c (T : Tq) (l a : Int) (i : Nat) (b nb : Nat) (fr : List Chunk) (hD : Rds fr (some ⟨b, 0, none⟩) (dt nb l)) (hN : Rds fr (some ⟨nb, 0, none⟩) (dnn T)) (hT : Nm T) (hi : i < 64) : Does Try.prog 44 [.pointer (some ⟨b, 0, none⟩), .int .i64 i, .int .i64 a] fr (fun _ : Unit => True) (fun _ => .bool (undF T a 64 i)) (fun _ => fr) := by
  intro w hw
  refine f_enter Try.func44 rfl Try.ntmps44 rfl hw ?_
  repeat' (first
   | (refine s_is ?_; first
   | (refine s_isw ?_; first
   | (refine s_isloop ?_; first
   | ((refine c_loop (X := Nat × Nat) (fun y => y.1 ≤ 64 ∧ y.2 < 64 ∧ undF T a 64 i = undF T a (64 - y.1) y.2) (fun y => [(0, .pointer (some ⟨b, 0, none⟩)), (1, .int .i64 y.2), (2, .int .i64 a), (7, .int .i64 y.1)]) (fun _ => fr) (fun y => 64 - y.1) (0, i) ⟨Nat.zero_le _, hi, rfl⟩ ⟨rfl, rfl, rfl, rfl, trivial⟩ (fun w h => h) (fun y hy => ?_); obtain ⟨k, j⟩ := y; obtain ⟨hk, hj, hu⟩ := hy; dsimp only at hk hj hu ⊢; refine hold ?_)))
   | refine c_seq ?_
   | refine c_block ?_
   | refine c_region ?_))
   | (refine z_isnil ?_; first
   | refine z_list ?_)
   | (refine z_isop ?_; first
   | refine o_assign rfl (by decide) ?_))
  refine Hold.go ?_
  by_cases hl : k < 64
  · have hg0 := hT.g0 j hj
    have hp1 := hT.p1 j hj
    have e64 : 64 - k = (64 - (k + 1)) + 1 := by omega
    by_cases hg : (T j).g = 0
    · rw [hu, undF_dead hg]
      repeat' (first
       | (refine s_is ?_; first
       | (refine s_isret ?_; first
       | exact f_r1 rfl (res_t rfl) () trivial rfl (fun w h => h))
       | (refine s_isw ?_; first
       | refine c_seq ?_
       | refine c_region ?_
       | refine c_ret ?_
       | refine c_exit ?_
       | (refine s_iscond ?_; first
       | (refine c_false rfl (by first | (simp only [Bool.not_eq_false', decide_eq_true_eq]; omega) | (with_reducible assumption) | (rw [decide_eq_false] <;> (first | omega | with_reducible rfl)) | (rw [decide_eq_true] <;> (first | omega | with_reducible rfl)) | (simp; done) | (simp; omega)) ?_))))
       | (refine z_isg1 ?_; first
       | (refine z_want1 rfl rfl (by first | with_reducible rfl | with_reducible assumption | ((with_reducible refine decide_eq_true ?_); first | with_reducible rfl | with_reducible assumption | omega)) ?_))
       | (refine z_isnil ?_; first
       | refine z_list ?_)
       | (refine z_isop ?_; first
       | refine o_indexskm tabOk rfl rfl rfl rfl (by omega) (by omega) (by decide) ?_
       | (refine z_isbin ?_; first
       | (refine z_isb .lss ?_; first
       | refine o_lt rfl rfl (by decide) ?_)
       | (refine z_isb .gtr ?_; first
       | refine o_gt rfl rfl (by decide) ?_))
       | (refine z_isload ?_; first
       | refine o_loadr tabOk (by first | exact hD | exact hN | exact hD.sub (List.sublist_append_right [_] _) | exact hN.sub (List.sublist_append_right [_] _) | exact hD.sub (List.sublist_append_right [_, _] _) | exact hN.sub (List.sublist_append_right [_, _] _) | exact hD.sub (List.sublist_append_right [_, _, _] _) | exact hN.sub (List.sublist_append_right [_, _, _] _) | assumption) rfl rfl rfl (by first | exact dt_l _ _ | exact dt_n _ _ | exact dnn_at _ (by omega) (by omega) (dcs_g _) | exact dnn_at _ (by omega) (by omega) (dcs_p _) | rfl | rfl) (by decide) ?_)
       | (refine z_ispick ?_; first
       | (refine o_pick1 rfl (by first | with_reducible rfl | with_reducible assumption | ((with_reducible refine decide_eq_true ?_); first | with_reducible rfl | with_reducible assumption | omega)) rfl (by decide) ?_))
       | refine o_move rfl (by decide) ?_
       | refine o_assign rfl (by decide) ?_
       | refine o_nil rfl (by decide) ?_
       | refine o_field0 tabOk rfl rfl rfl rfl rfl (by decide) ?_
       | refine o_field tabOk rfl rfl rfl rfl rfl (by decide) ?_))
    · by_cases hp : (T j).p = a
      · rw [hu, e64, undF_kid hg hp]
        repeat' (first
         | (refine s_is ?_; first
         | (refine s_isret ?_; first
         | exact f_r1 rfl (res_t rfl) () trivial rfl (fun w h => h))
         | (refine s_isw ?_; first
         | refine c_seq ?_
         | refine c_block ?_
         | refine c_region ?_
         | refine c_skip ?_
         | refine c_ret ?_
         | (refine s_iscond ?_; first
         | (refine c_true rfl (by first | (simp only [Bool.not_eq_true', decide_eq_false_iff_not]; omega) | (with_reducible assumption) | (rw [decide_eq_false] <;> (first | omega | with_reducible rfl)) | (rw [decide_eq_true] <;> (first | omega | with_reducible rfl)) | (simp; done) | (simp; omega)) ?_)))
         | refine x_then_ret ?_
         | refine x_block_ret _ ?_)
         | (refine z_isg1 ?_; first
         | (refine z_want1 rfl rfl (by first | with_reducible rfl | with_reducible assumption | ((with_reducible refine decide_eq_true ?_); first | with_reducible rfl | with_reducible assumption | omega)) ?_))
         | (refine z_isnil ?_; first
         | refine z_list ?_)
         | (refine z_isop ?_; first
         | refine o_indexskm tabOk rfl rfl rfl rfl (by omega) (by omega) (by decide) ?_
         | (refine z_isbin ?_; first
         | (refine z_isb .eql ?_; first
         | refine o_eq rfl rfl (by decide) ?_)
         | (refine z_isb .lss ?_; first
         | refine o_lt rfl rfl (by decide) ?_)
         | (refine z_isb .gtr ?_; first
         | refine o_gt rfl rfl (by decide) ?_))
         | (refine z_isload ?_; first
         | refine o_loadr tabOk (by first | exact hD | exact hN | exact hD.sub (List.sublist_append_right [_] _) | exact hN.sub (List.sublist_append_right [_] _) | exact hD.sub (List.sublist_append_right [_, _] _) | exact hN.sub (List.sublist_append_right [_, _] _) | exact hD.sub (List.sublist_append_right [_, _, _] _) | exact hN.sub (List.sublist_append_right [_, _, _] _) | assumption) rfl rfl rfl (by first | exact dt_l _ _ | exact dt_n _ _ | exact dnn_at _ (by omega) (by omega) (dcs_g _) | exact dnn_at _ (by omega) (by omega) (dcs_p _) | rfl | rfl) (by decide) ?_)
         | (refine z_ispick ?_; first
         | (refine o_pick1 rfl (by first | with_reducible rfl | with_reducible assumption | ((with_reducible refine decide_eq_true ?_); first | with_reducible rfl | with_reducible assumption | omega)) rfl (by decide) ?_))
         | refine o_move rfl (by decide) ?_
         | refine o_assign rfl (by decide) ?_
         | refine o_nil rfl (by decide) ?_
         | refine o_field0 tabOk rfl rfl rfl rfl rfl (by decide) ?_
         | refine o_field tabOk rfl rfl rfl rfl rfl (by decide) ?_))
      · by_cases h0 : (T j).p < 0
        · rw [hu, e64, undF_top hg hp h0]
          repeat' (first
           | (refine s_is ?_; first
           | (refine s_isret ?_; first
           | exact f_r1 rfl (res_t rfl) () trivial rfl (fun w h => h))
           | (refine s_isw ?_; first
           | refine c_seq ?_
           | refine c_block ?_
           | refine c_region ?_
           | refine c_skip ?_
           | refine c_ret ?_
           | (refine s_iscond ?_; first
           | (refine c_true rfl (by first | (simp only [Bool.not_eq_true', decide_eq_false_iff_not]; omega) | (with_reducible assumption) | (rw [decide_eq_false] <;> (first | omega | with_reducible rfl)) | (rw [decide_eq_true] <;> (first | omega | with_reducible rfl)) | (simp; done) | (simp; omega)) ?_)
           | (refine c_false rfl (by first | (simp only [Bool.not_eq_false', decide_eq_true_eq]; omega) | (with_reducible assumption) | (rw [decide_eq_false] <;> (first | omega | with_reducible rfl)) | (rw [decide_eq_true] <;> (first | omega | with_reducible rfl)) | (simp; done) | (simp; omega)) ?_)))
           | refine x_then_ret ?_
           | refine x_block_ret _ ?_)
           | (refine z_isg1 ?_; first
           | (refine z_want1 rfl rfl (by first | with_reducible rfl | with_reducible assumption | ((with_reducible refine decide_eq_true ?_); first | with_reducible rfl | with_reducible assumption | omega)) ?_))
           | (refine z_isnil ?_; first
           | refine z_list ?_)
           | (refine z_isop ?_; first
           | refine o_indexskm tabOk rfl rfl rfl rfl (by omega) (by omega) (by decide) ?_
           | (refine z_isbin ?_; first
           | (refine z_isb .eql ?_; first
           | refine o_eq rfl rfl (by decide) ?_)
           | (refine z_isb .lss ?_; first
           | refine o_lt rfl rfl (by decide) ?_)
           | (refine z_isb .gtr ?_; first
           | refine o_gt rfl rfl (by decide) ?_))
           | (refine z_isload ?_; first
           | refine o_loadr tabOk (by first | exact hD | exact hN | exact hD.sub (List.sublist_append_right [_] _) | exact hN.sub (List.sublist_append_right [_] _) | exact hD.sub (List.sublist_append_right [_, _] _) | exact hN.sub (List.sublist_append_right [_, _] _) | exact hD.sub (List.sublist_append_right [_, _, _] _) | exact hN.sub (List.sublist_append_right [_, _, _] _) | assumption) rfl rfl rfl (by first | exact dt_l _ _ | exact dt_n _ _ | exact dnn_at _ (by omega) (by omega) (dcs_g _) | exact dnn_at _ (by omega) (by omega) (dcs_p _) | rfl | rfl) (by decide) ?_)
           | (refine z_ispick ?_; first
           | (refine o_pick1 rfl (by first | with_reducible rfl | with_reducible assumption | ((with_reducible refine decide_eq_true ?_); first | with_reducible rfl | with_reducible assumption | omega)) rfl (by decide) ?_))
           | refine o_move rfl (by decide) ?_
           | refine o_assign rfl (by decide) ?_
           | refine o_nil rfl (by decide) ?_
           | refine o_field0 tabOk rfl rfl rfl rfl rfl (by decide) ?_
           | refine o_field tabOk rfl rfl rfl rfl rfl (by decide) ?_))
        · rw [e64, undF_up hg hp h0] at hu
          have hpl := hp1 hg
          have hpe : (T j).p = ((T j).p.toNat : Int) := by omega
          repeat' (first
           | (refine s_is ?_; first
           | (refine s_isagain ?_; first
           | (exact c_again (k + 1, (T j).p.toNat) ⟨(by dsimp only; omega), (by dsimp only; omega), hu⟩ (by dsimp only; omega) ⟨rfl, congrArg some (congrArg (Value.int .i64) hpe), rfl, rfl, trivial⟩ (fun w h => h)))
           | (refine s_isw ?_; first
           | refine c_seq ?_
           | refine c_block ?_
           | refine c_region ?_
           | refine c_skip ?_
           | (refine s_iscond ?_; first
           | (refine c_true rfl (by first | (simp only [Bool.not_eq_true', decide_eq_false_iff_not]; omega) | (with_reducible assumption) | (rw [decide_eq_false] <;> (first | omega | with_reducible rfl)) | (rw [decide_eq_true] <;> (first | omega | with_reducible rfl)) | (simp; done) | (simp; omega)) ?_)
           | (refine c_false rfl (by first | (simp only [Bool.not_eq_false', decide_eq_true_eq]; omega) | (with_reducible assumption) | (rw [decide_eq_false] <;> (first | omega | with_reducible rfl)) | (rw [decide_eq_true] <;> (first | omega | with_reducible rfl)) | (simp; done) | (simp; omega)) ?_))))
           | (refine z_isg1 ?_; first
           | (refine z_want1 rfl rfl (by first | with_reducible rfl | with_reducible assumption | ((with_reducible refine decide_eq_true ?_); first | with_reducible rfl | with_reducible assumption | omega)) ?_))
           | (refine z_isnil ?_; first
           | refine z_list ?_)
           | (refine z_isop ?_; first
           | refine o_indexskm tabOk rfl rfl rfl rfl (by omega) (by omega) (by decide) ?_
           | (refine z_isbin ?_; first
           | (refine z_isb .add ?_; first
           | refine o_add rfl rfl (by omega) (by omega) (by decide) ?_)
           | (refine z_isb .eql ?_; first
           | refine o_eq rfl rfl (by decide) ?_)
           | (refine z_isb .lss ?_; first
           | refine o_lt rfl rfl (by decide) ?_)
           | (refine z_isb .gtr ?_; first
           | refine o_gt rfl rfl (by decide) ?_))
           | (refine z_isload ?_; first
           | refine o_loadr tabOk (by first | exact hD | exact hN | exact hD.sub (List.sublist_append_right [_] _) | exact hN.sub (List.sublist_append_right [_] _) | exact hD.sub (List.sublist_append_right [_, _] _) | exact hN.sub (List.sublist_append_right [_, _] _) | exact hD.sub (List.sublist_append_right [_, _, _] _) | exact hN.sub (List.sublist_append_right [_, _, _] _) | assumption) rfl rfl rfl (by first | exact dt_l _ _ | exact dt_n _ _ | exact dnn_at _ (by omega) (by omega) (dcs_g _) | exact dnn_at _ (by omega) (by omega) (dcs_p _) | rfl | rfl) (by decide) ?_)
           | (refine z_ispick ?_; first
           | (refine o_pick1 rfl (by first | with_reducible rfl | with_reducible assumption | ((with_reducible refine decide_eq_true ?_); first | with_reducible rfl | with_reducible assumption | omega)) rfl (by decide) ?_))
           | refine o_move rfl (by decide) ?_
           | refine o_assign rfl (by decide) ?_
           | refine o_nil rfl (by decide) ?_
           | refine o_field0 tabOk rfl rfl rfl rfl rfl (by decide) ?_
           | refine o_field tabOk rfl rfl rfl rfl rfl (by decide) ?_))
  · obtain rfl : k = 64 := by omega
    rw [hu, show 64 - 64 = 0 from rfl, undF_zero]
    repeat' (first
     | (refine s_is ?_; first
     | (refine s_isret ?_; first
     | exact f_r1 rfl (res_t rfl) () trivial rfl (fun w h => h))
     | (refine s_isw ?_; first
     | refine c_seq ?_
     | refine c_region ?_
     | refine c_ret ?_
     | refine c_exit ?_
     | (refine s_iscond ?_; first
     | (refine c_false rfl (by first | with_reducible rfl | with_reducible assumption | ((with_reducible refine decide_eq_false ?_); first | with_reducible assumption | omega)) ?_))))
     | (refine z_isg1 ?_; first
     | (refine z_skip1 (by decide) rfl rfl (by first | with_reducible rfl | with_reducible assumption | ((with_reducible refine decide_eq_false ?_); first | with_reducible assumption | omega)) ?_))
     | (refine z_isnil ?_; first
     | refine z_list ?_)
     | (refine z_isop ?_; first
     | (refine z_isbin ?_; first
     | (refine z_isb .lss ?_; first
     | refine o_lt rfl rfl (by decide) ?_))
     | (refine z_ispick ?_; first
     | (refine o_pick0 rfl (by first | with_reducible rfl | with_reducible assumption | ((with_reducible refine decide_eq_false ?_); first | with_reducible assumption | omega)) rfl (by decide) ?_))
     | refine o_move rfl (by decide) ?_
     | refine o_assign rfl (by decide) ?_))
set_option maxHeartbeats 4000000 in
theorem dlent_c (T : Tq) (l a : Int) (b nb : Nat) (fr : List Chunk) (hD : Rds fr (some ⟨b, 0, none⟩) (dt nb l)) (hN : Rds fr (some ⟨nb, 0, none⟩) (dnn T)) (hT : Nm T) : Does Try.prog 38 [.pointer (some ⟨b, 0, none⟩), .int .i64 a] fr (fun _ : Unit => True) (fun _ => .agg (bs (dl T a 64)).toArray) (fun _ => fr) := by
  intro w hw
  refine f_enter Try.func38 rfl Try.ntmps38 rfl hw ?_
  repeat' (first
   | ((refine z_isdst 4 ?_; refine o_alloca (e := 36) (vs := bs (fun _ => false)) rfl (by kernel_rfl) (by decide) fun g4 => ?_))
   | ((refine z_isdst 5 ?_; refine o_alloca (e := 36) (vs := bs (fun _ => false)) rfl (by kernel_rfl) (by decide) fun g5 => ?_))
   | ((refine z_isdst 7 ?_; refine o_build0 (t := 36) (v := .agg (bs (fun _ => false)).toArray) (fun _ => by kernel_rfl) (by decide) ?_))
   | (refine s_is ?_; first
   | (refine s_isw ?_; first
   | (refine s_isloop ?_; first
   | ((refine c_loop (X := Nat) (fun k => k ≤ 64) (fun k => [(0, .pointer (some ⟨b, 0, none⟩)), (1, .int .i64 a), (4, .pointer (some ⟨g4, 0, none⟩)), (5, .pointer (some ⟨g5, 0, none⟩)), (6, .int .i64 k)]) (fun k => cells g5 36 (bs (dl T a k)) :: cells g4 36 (bs (fun _ => false)) :: fr) (fun k => 64 - k) 0 (Nat.zero_le _) ⟨rfl, rfl, rfl, rfl, rfl, trivial⟩ (fun w h => by rw [dl_zero]; exact h) (fun k hk => ?_); refine hold ?_)))
   | refine c_seq ?_
   | refine c_block ?_
   | refine c_region ?_))
   | (refine z_isnil ?_; first
   | refine z_list ?_)
   | (refine z_isop ?_; first
   | (refine z_isstore ?_; first
   | (refine z_stw rfl ?_; first
   | ((refine z_sti 0 rfl rfl ?_; refine o_storeb0 rfl tabOk rfl rfl rfl (by first | rfl | exact dt_len _ _ | exact dnn_len _ | exact dcs_len _ | exact bs_len _ | (simp only [dnn_len, dcs_len, bs_len]; done) | rfl) (by first | rfl | exact dnn_one _ | exact dcs_one _ | exact dt_one _ _ | exact bs_one _ | rfl) (by first | rfl | exact dt_len _ _ | exact dnn_len _ | exact dcs_len _ | exact bs_len _ | (simp only [dnn_len, dcs_len, bs_len]; done) | rfl) ?_))))
   | refine o_assign rfl (by decide) ?_))
  refine Hold.go ?_
  by_cases hl : k < 64
  · have hg0 := hT.g0 k hl
    by_cases hg : (T k).g = 0
    · have hn := dl_no (T := T) (a := a) (n := k) (fun e => e.1 hg)
      repeat' (first
       | (refine s_is ?_; first
       | (refine s_isagain ?_; first
       | (exact c_again (k + 1) (by omega) (by omega) ⟨rfl, rfl, rfl, rfl, rfl, trivial⟩ (fun w h => by rw [hn]; exact h)))
       | (refine s_isw ?_; first
       | refine c_seq ?_
       | refine c_block ?_
       | refine c_region ?_
       | refine c_skip ?_
       | (refine s_iscond ?_; first
       | (refine c_true rfl (by first | with_reducible rfl | with_reducible assumption | ((with_reducible refine decide_eq_true ?_); first | with_reducible rfl | with_reducible assumption | omega)) ?_)
       | (refine c_false rfl (by first | with_reducible rfl | with_reducible assumption | ((with_reducible refine decide_eq_false ?_); first | with_reducible assumption | omega)) ?_))))
       | (refine z_isg1 ?_; first
       | (refine z_skip1 (by decide) rfl rfl (by first | (simp only [Bool.not_eq_false', decide_eq_true_eq]; omega) | (with_reducible assumption) | (rw [decide_eq_false] <;> (first | omega | with_reducible rfl)) | (rw [decide_eq_true] <;> (first | omega | with_reducible rfl)) | (simp; done) | (simp; omega)) ?_))
       | (refine z_isnil ?_; first
       | refine z_list ?_)
       | (refine z_isop ?_; first
       | refine o_indexskm tabOk rfl rfl rfl rfl (by omega) (by omega) (by decide) ?_
       | (refine z_isbin ?_; first
       | (refine z_isb .add ?_; first
       | refine o_add rfl rfl (by omega) (by omega) (by decide) ?_)
       | (refine z_isb .lss ?_; first
       | refine o_lt rfl rfl (by decide) ?_)
       | (refine z_isb .gtr ?_; first
       | refine o_gt rfl rfl (by decide) ?_))
       | (refine z_isload ?_; first
       | refine o_loadr tabOk (by first | exact hD | exact hN | exact hD.sub (List.sublist_append_right [_] _) | exact hN.sub (List.sublist_append_right [_] _) | exact hD.sub (List.sublist_append_right [_, _] _) | exact hN.sub (List.sublist_append_right [_, _] _) | exact hD.sub (List.sublist_append_right [_, _, _] _) | exact hN.sub (List.sublist_append_right [_, _, _] _) | assumption) rfl rfl rfl (by first | exact dt_l _ _ | exact dt_n _ _ | exact dnn_at _ (by omega) (by omega) (dcs_g _) | exact dnn_at _ (by omega) (by omega) (dcs_p _) | rfl | rfl) (by decide) ?_)
       | (refine z_ispick ?_; first
       | (refine o_pick0 rfl (by first | (simp only [Bool.not_eq_false', decide_eq_true_eq]; omega) | (with_reducible assumption) | (rw [decide_eq_false] <;> (first | omega | with_reducible rfl)) | (rw [decide_eq_true] <;> (first | omega | with_reducible rfl)) | (simp; done) | (simp; omega)) rfl (by decide) ?_))
       | refine o_move rfl (by decide) ?_
       | refine o_assign rfl (by decide) ?_
       | refine o_nil rfl (by decide) ?_
       | refine o_field0 tabOk rfl rfl rfl rfl rfl (by decide) ?_
       | refine o_field tabOk rfl rfl rfl rfl rfl (by decide) ?_))
    · by_cases hp : (T k).p = a
      · have hn := dl_yes (T := T) (a := a) (n := k) ⟨hg, hp⟩
        repeat' (first
         | ((refine z_isdst 41 ?_; refine o_loadrw tabOk (hN.sub (List.sublist_append_right [_, _] _)) rfl rfl rfl (es := bs (T k).s) (bs_len _) (by rw [bs_len]; decide) (dnn_s T hl) (by decide) ?_))
         | (refine s_is ?_; first
         | (refine s_isagain ?_; first
         | (exact c_again (k + 1) (by omega) (by omega) ⟨rfl, rfl, rfl, rfl, rfl, trivial⟩ (fun w h => by rw [← hn]; exact h)))
         | (refine s_isw ?_; first
         | refine c_seq ?_
         | refine c_block ?_
         | refine c_region ?_
         | refine c_mixed mixed (by kernel_rfl) ?_
         | refine c_skip ?_
         | (refine s_iscond ?_; first
         | (refine c_true rfl (by first | with_reducible rfl | with_reducible assumption | ((with_reducible refine decide_eq_true ?_); first | with_reducible rfl | with_reducible assumption | omega)) ?_)
         | (refine c_true rfl (by first | (simp only [Bool.not_eq_true', decide_eq_false_iff_not]; omega) | (with_reducible assumption) | (rw [decide_eq_false] <;> (first | omega | with_reducible rfl)) | (rw [decide_eq_true] <;> (first | omega | with_reducible rfl)) | (simp; done) | (simp; omega)) ?_))))
         | (refine z_isg1 ?_; first
         | (refine z_want1 rfl rfl (by first | (simp only [Bool.not_eq_true', decide_eq_false_iff_not]; omega) | (with_reducible assumption) | (rw [decide_eq_false] <;> (first | omega | with_reducible rfl)) | (rw [decide_eq_true] <;> (first | omega | with_reducible rfl)) | (simp; done) | (simp; omega)) ?_))
         | (refine z_isnil ?_; first
         | refine z_list ?_
         | refine z_mixed ?_)
         | (refine z_isop ?_; first
         | refine o_indexskm tabOk rfl rfl rfl rfl (by omega) (by omega) (by decide) ?_
         | (refine z_isbin ?_; first
         | (refine z_isb .add ?_; first
         | refine o_add rfl rfl (by omega) (by omega) (by decide) ?_)
         | (refine z_isb .eql ?_; first
         | refine o_eq rfl rfl (by decide) ?_)
         | (refine z_isb .lss ?_; first
         | refine o_lt rfl rfl (by decide) ?_)
         | (refine z_isb .gtr ?_; first
         | refine o_gt rfl rfl (by decide) ?_))
         | (refine z_isload ?_; first
         | refine o_loadr tabOk (by first | exact hD | exact hN | exact hD.sub (List.sublist_append_right [_] _) | exact hN.sub (List.sublist_append_right [_] _) | exact hD.sub (List.sublist_append_right [_, _] _) | exact hN.sub (List.sublist_append_right [_, _] _) | exact hD.sub (List.sublist_append_right [_, _, _] _) | exact hN.sub (List.sublist_append_right [_, _, _] _) | assumption) rfl rfl rfl (by first | exact dt_l _ _ | exact dt_n _ _ | exact dnn_at _ (by omega) (by omega) (dcs_g _) | exact dnn_at _ (by omega) (by omega) (dcs_p _) | rfl | rfl) (by decide) ?_
         | (refine z_ldw tabOk rfl rfl ?_; first
         | (refine o_loadwm tabOk rfl rfl rfl (by repeat' (first | exact List.mem_cons_self | apply List.mem_cons_of_mem)) (by first | rfl | exact dt_len _ _ | exact dnn_len _ | exact dcs_len _ | exact bs_len _ | (simp only [dnn_len, dcs_len, bs_len]; done) | rfl) (by decide) ?_)))
         | (refine z_isstore ?_; first
         | (refine z_stw rfl ?_; first
         | ((refine z_sti 0 rfl rfl ?_; refine o_storeb0 rfl tabOk rfl rfl rfl (by first | rfl | exact dt_len _ _ | exact dnn_len _ | exact dcs_len _ | exact bs_len _ | (simp only [dnn_len, dcs_len, bs_len]; done) | rfl) (by first | rfl | exact dnn_one _ | exact dcs_one _ | exact dt_one _ _ | exact bs_one _ | rfl) (by first | rfl | exact dt_len _ _ | exact dnn_len _ | exact dcs_len _ | exact bs_len _ | (simp only [dnn_len, dcs_len, bs_len]; done) | rfl) ?_))))
         | (refine z_iscall ?_; first
         | ((refine z_iscallf 43 ?_; refine o_fn rfl Try.func43 rfl rfl rfl (rlay_p _ _ _) (by decide) ?_)))
         | (refine z_ispick ?_; first
         | (refine o_pick1 rfl (by first | (simp only [Bool.not_eq_true', decide_eq_false_iff_not]; omega) | (with_reducible assumption) | (rw [decide_eq_false] <;> (first | omega | with_reducible rfl)) | (rw [decide_eq_true] <;> (first | omega | with_reducible rfl)) | (simp; done) | (simp; omega)) rfl (by decide) ?_))
         | refine o_move rfl (by decide) ?_
         | refine o_assign rfl (by decide) ?_
         | refine o_nil rfl (by decide) ?_
         | refine o_field0 tabOk rfl rfl rfl rfl rfl (by decide) ?_
         | refine o_field tabOk rfl rfl rfl rfl rfl (by decide) ?_))
      · have hn := dl_no (T := T) (a := a) (n := k) (fun e => hp e.2)
        repeat' (first
         | (refine s_is ?_; first
         | (refine s_isagain ?_; first
         | (exact c_again (k + 1) (by omega) (by omega) ⟨rfl, rfl, rfl, rfl, rfl, trivial⟩ (fun w h => by rw [hn]; exact h)))
         | (refine s_isw ?_; first
         | refine c_seq ?_
         | refine c_block ?_
         | refine c_region ?_
         | refine c_skip ?_
         | (refine s_iscond ?_; first
         | (refine c_true rfl (by first | with_reducible rfl | with_reducible assumption | ((with_reducible refine decide_eq_true ?_); first | with_reducible rfl | with_reducible assumption | omega)) ?_)
         | (refine c_false rfl (by first | (simp only [Bool.not_eq_false', decide_eq_true_eq]; omega) | (with_reducible assumption) | (rw [decide_eq_false] <;> (first | omega | with_reducible rfl)) | (rw [decide_eq_true] <;> (first | omega | with_reducible rfl)) | (simp; done) | (simp; omega)) ?_))))
         | (refine z_isg1 ?_; first
         | (refine z_want1 rfl rfl (by first | (simp only [Bool.not_eq_true', decide_eq_false_iff_not]; omega) | (with_reducible assumption) | (rw [decide_eq_false] <;> (first | omega | with_reducible rfl)) | (rw [decide_eq_true] <;> (first | omega | with_reducible rfl)) | (simp; done) | (simp; omega)) ?_))
         | (refine z_isnil ?_; first
         | refine z_list ?_)
         | (refine z_isop ?_; first
         | refine o_indexskm tabOk rfl rfl rfl rfl (by omega) (by omega) (by decide) ?_
         | (refine z_isbin ?_; first
         | (refine z_isb .add ?_; first
         | refine o_add rfl rfl (by omega) (by omega) (by decide) ?_)
         | (refine z_isb .eql ?_; first
         | refine o_eq rfl rfl (by decide) ?_)
         | (refine z_isb .lss ?_; first
         | refine o_lt rfl rfl (by decide) ?_)
         | (refine z_isb .gtr ?_; first
         | refine o_gt rfl rfl (by decide) ?_))
         | (refine z_isload ?_; first
         | refine o_loadr tabOk (by first | exact hD | exact hN | exact hD.sub (List.sublist_append_right [_] _) | exact hN.sub (List.sublist_append_right [_] _) | exact hD.sub (List.sublist_append_right [_, _] _) | exact hN.sub (List.sublist_append_right [_, _] _) | exact hD.sub (List.sublist_append_right [_, _, _] _) | exact hN.sub (List.sublist_append_right [_, _, _] _) | assumption) rfl rfl rfl (by first | exact dt_l _ _ | exact dt_n _ _ | exact dnn_at _ (by omega) (by omega) (dcs_g _) | exact dnn_at _ (by omega) (by omega) (dcs_p _) | rfl | rfl) (by decide) ?_)
         | (refine z_ispick ?_; first
         | (refine o_pick1 rfl (by first | (simp only [Bool.not_eq_true', decide_eq_false_iff_not]; omega) | (with_reducible assumption) | (rw [decide_eq_false] <;> (first | omega | with_reducible rfl)) | (rw [decide_eq_true] <;> (first | omega | with_reducible rfl)) | (simp; done) | (simp; omega)) rfl (by decide) ?_))
         | refine o_move rfl (by decide) ?_
         | refine o_assign rfl (by decide) ?_
         | refine o_nil rfl (by decide) ?_
         | refine o_field0 tabOk rfl rfl rfl rfl rfl (by decide) ?_
         | refine o_field tabOk rfl rfl rfl rfl rfl (by decide) ?_))
  · obtain rfl : k = 64 := by omega
    repeat' (first
     | (refine s_is ?_; first
     | (refine s_isret ?_; first
     | exact f_r1 rfl (res_c tabOk rfl rfl rfl 1 rfl (bs_len _)) () trivial rfl (fun w h => ((h.sel 2 [0, 1] (by decide)).mask [false, false])))
     | (refine s_isw ?_; first
     | refine c_seq ?_
     | refine c_region ?_
     | refine c_ret ?_
     | refine c_exit ?_
     | (refine s_iscond ?_; first
     | (refine c_false rfl (by first | with_reducible rfl | with_reducible assumption | ((with_reducible refine decide_eq_false ?_); first | with_reducible assumption | omega)) ?_))))
     | (refine z_isnil ?_; first
     | refine z_list ?_)
     | (refine z_isop ?_; first
     | (refine z_isbin ?_; first
     | (refine z_isb .lss ?_; first
     | refine o_lt rfl rfl (by decide) ?_))
     | (refine z_isload ?_; first
     | (refine z_ldw tabOk rfl rfl ?_; first
     | (refine o_loadwm tabOk rfl rfl rfl (by repeat' (first | exact List.mem_cons_self | apply List.mem_cons_of_mem)) (by first | rfl | exact dt_len _ _ | exact dnn_len _ | exact dcs_len _ | exact bs_len _ | (simp only [dnn_len, dcs_len, bs_len]; done) | rfl) (by decide) ?_)))
     | (refine z_isstore ?_; first
     | (refine z_stw rfl ?_; first
     | ((refine z_sti 1 rfl rfl ?_; refine o_storeb1 rfl tabOk rfl rfl rfl (by first | rfl | exact dt_len _ _ | exact dnn_len _ | exact dcs_len _ | exact bs_len _ | (simp only [dnn_len, dcs_len, bs_len]; done) | rfl) (by first | rfl | exact dnn_one _ | exact dcs_one _ | exact dt_one _ _ | exact bs_one _ | rfl) (by first | rfl | exact dt_len _ _ | exact dnn_len _ | exact dcs_len _ | exact bs_len _ | (simp only [dnn_len, dcs_len, bs_len]; done) | rfl) ?_))))
     | refine o_move rfl (by decide) ?_))
theorem dnew_aux {L : List Value} (h : L = dnn (fun _ => Cq.zero)) {B : Base} {w : World} {g T : Nat} {hp : List Chunk} (hS : St B w (cells g T L :: hp)) : St B w (cells g T (dnn (fun _ => Cq.zero)) :: hp) := h ▸ hS
theorem dcs_filled (g p : Int) (A : Option Addr) (c : Nat) (s : Nat → Bool) : Filled (fun i => [(0, 1), (1, 1), (2, 1024)][i]?) [(0, .int .u64 g), (1, .int .i64 p), (2, .agg (bs s).toArray)] (.int .u64 0 :: .int .i64 0 :: bs (fun _ => false)) (dcs ⟨g, p, A, c, s⟩) := by
  refine ⟨0, 1, rfl, rfl, Nat.le_add_left _ _, 1, 1, rfl, rfl, ?_, 2, 1024, rfl, ?_, ?_, ?_⟩
  · simp [Value.cells, bs_len]
  · show (bs s).toArray.toList.length = 1024; rw [List.toList_toArray, bs_len]
  · simp [bs_len, Value.cells]
  · show _ = _
    simp [Value.cells, bs_len, dcs]
theorem dnn_puty (T : Tq) {i : Nat} (h : i < 64) (x : Cq) : (dnn T).take (i * 1026) ++ dcs x ++ (dnn T).drop (i * 1026 + (dcs x).length) = dnn (upd T i x) := by rw [dcs_len]; exact dnn_put T h x
theorem dnn_fit (T : Tq) {i : Nat} (h : i < 64) (x : Cq) : i * 1026 + (dcs x).length ≤ (dnn T).length := by rw [dcs_len, dnn_len]; omega
set_option maxHeartbeats 4000000 in
theorem dnew_c (s : Nat → Bool) (A : Option Addr) (c : Nat) (fr : List Chunk) : Does Try.prog 9 [.agg (bs s).toArray] fr (fun _ : Nat × Nat => True) (fun x => .pointer (some ⟨x.1, 0, none⟩)) (fun x => cells x.1 43 (dt x.2 1) :: cells x.2 40 (dnn (upd Tq.zero 0 ⟨1, -1, A, c, s⟩)) :: fr) := by
  intro w hw
  refine f_enter Try.func9 rfl Try.ntmps9 rfl hw ?_
  repeat' (first
   | ((refine z_isdst 1 ?_; refine o_boxa (vs := bs s) rfl rfl (by decide) fun g1 => ?_))
   | ((refine z_isdst 4 ?_; refine o_makes (k := 64) (zs := dcs Cq.zero) rfl tabOk rfl rfl rfl rfl (by rw [dcs_zero0]; kernel_rfl) (by kernel_rfl) rfl (by decide) fun gn => ?_; rw [dnn_made]))
   | ((refine z_isdst 5 ?_; refine o_build (v := .agg (dt gn 1).toArray) rfl (fun _ => by kernel_rfl) (by decide) ?_))
   | ((refine z_isdst 6 ?_; refine o_boxa (vs := dt gn 1) rfl rfl (by decide) fun gd => ?_))
   | ((refine z_isdst 12 ?_; refine o_buildf (t := 40) (vs := dcs ⟨1, -1, A, c, s⟩) tabOk rfl rfl (by kernel_rfl) rfl (dcs_filled 1 (-1) A c s) (by decide) ?_))
   | (refine s_is ?_; first
   | (refine s_isret ?_; first
   | exact f_r1 rfl (res_t rfl) (gd, gn) trivial rfl (fun w h => ((h.sel 3 [0, 1, 2] (by decide)).mask [true, true, false])))
   | (refine s_isw ?_; first
   | refine c_seq ?_
   | refine c_region ?_
   | refine c_mixed mixed (by kernel_rfl) ?_
   | refine c_ret ?_))
   | (refine z_isnil ?_; first
   | refine z_list ?_
   | refine z_mixed ?_)
   | (refine z_isop ?_; first
   | refine o_indexskm tabOk rfl rfl rfl rfl (by omega) (by omega) (by decide) ?_
   | (refine z_isload ?_; first
   | refine o_loadr tabOk (by first | exact cells_rds 0 rfl | exact cells_rds 1 rfl | assumption) rfl rfl rfl (by first | exact dt_l _ _ | exact dt_n _ _ | exact dnn_at _ (by omega) (by omega) (dcs_g _) | exact dnn_at _ (by omega) (by omega) (dcs_p _) | rfl | rfl) (by decide) ?_
   | (refine z_ldw tabOk rfl rfl ?_; first
   | (refine o_loadwm tabOk rfl rfl rfl (by repeat' (first | exact List.mem_cons_self | apply List.mem_cons_of_mem)) (by first | rfl | exact dt_len _ _ | exact dnn_len _ | exact dcs_len _ | exact bs_len _ | (simp only [dnn_len, dcs_len, bs_len]; done) | rfl) (by decide) ?_)))
   | (refine z_isstore ?_; first
   | refine o_storew_at rfl 1 tabOk rfl rfl rfl rfl (dcs_len _) (dcs_one _) (dnn_fit _ (i := Int.toNat 0) (by decide) _) (dnn_puty _ (i := Int.toNat 0) (by decide) _) ?_)
   | refine o_move rfl (by decide) ?_
   | refine o_assign rfl (by decide) ?_
   | refine o_nil rfl (by decide) ?_
   | refine o_field0 tabOk rfl rfl rfl rfl rfl (by decide) ?_))
end Go.Proofs.Ytfegdehgnhomnaa
