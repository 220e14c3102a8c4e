/-
Caps: the document's Derive.
-/
import Derived.Test.YtfegdehgnhomnaaCd1
namespace Go.Proofs.Ytfegdehgnhomnaa
set_option linter.unusedVariables false
set_option linter.unusedSimpArgs false
open Eng
theorem dis_y (T : Tq) (l a g : Int) (b nb : Nat) (fr : List Chunk) (hD : Rds fr (some ⟨b, 0, none⟩) (dt nb l)) (hN : Rds fr (some ⟨nb, 0, none⟩) (dnn T)) (hg : 0 ≤ g) (h : isN T a g) : Does Try.prog 27 [.pointer (some ⟨b, 0, none⟩), .int .i64 a, .int .u64 g] fr (fun _ : Unit => True) (fun _ => .bool true) (fun _ => fr) := by
  have := dis_c T l a g b nb fr hD hN hg
  rw [decide_eq_true h] at this
  exact this
theorem dis_n (T : Tq) (l a g : Int) (b nb : Nat) (fr : List Chunk) (hD : Rds fr (some ⟨b, 0, none⟩) (dt nb l)) (hN : Rds fr (some ⟨nb, 0, none⟩) (dnn T)) (hg : 0 ≤ g) (h : ¬ isN T a g) : Does Try.prog 27 [.pointer (some ⟨b, 0, none⟩), .int .i64 a, .int .u64 g] fr (fun _ : Unit => True) (fun _ => .bool false) (fun _ => fr) := by
  have := dis_c T l a g b nb fr hD hN hg
  rw [decide_eq_false h] at this
  exact this
attribute [local irreducible] Eng.Hold Eng.Z Eng.S Eng.cells Eng.old Eng.own rc rws tq tqn Cq.cs emp dcs dnn dt bs layS al undF isN dl
attribute [local irreducible] ofS
theorem dder_no (T : Tq) (l a g : Int) (b nb : Nat) (s : Nat → Bool) (fr : List Chunk) (hD : Rds fr (some ⟨b, 0, none⟩) (dt nb l)) (hN : Rds fr (some ⟨nb, 0, none⟩) (dnn T)) (hg : 0 ≤ g) (h : ¬ isN T a g) : Does Try.prog 28 [.pointer (some ⟨b, 0, none⟩), .int .i64 a, .int .u64 g, .agg (bs s).toArray] fr (fun _ : Unit => True) (fun _ => .tuple #[.int .i64 0, .int .u64 0, .int .i64 3]) (fun _ => fr) := by
  intro w hw
  refine f_enter Try.func28 rfl Try.ntmps28 rfl hw ?_
  repeat' (first
   | ((refine z_isdst 15 ?_; refine o_callr rfl Try.func27 rfl rfl rfl (dis_n T l a g b nb _ (hD.sub (List.sublist_append_right [_] _)) (hN.sub (List.sublist_append_right [_] _)) hg h) (by decide) ?_))
   | ((refine z_isdst 7 ?_; refine o_boxa (vs := bs s) rfl rfl (by decide) fun g7 => ?_))
   | (refine s_is ?_; first
   | (refine s_isret ?_; first
   | exact f_r3 rfl (res_t rfl) (res_t rfl) (res_t rfl) () trivial rfl (fun w h => ((h.sel 1 [0] (by decide)).mask [false])))
   | (refine s_isw ?_; first
   | refine c_seq ?_
   | refine c_region ?_
   | refine c_ret ?_
   | (refine s_iscond ?_; first
   | (refine c_true rfl (by first | (simp only [Bool.not_eq_true', decide_eq_false_iff_not]; omega) | (with_reducible assumption) | (rw [decide_eq_false] <;> (first | omega | with_reducible rfl)) | (rw [decide_eq_true] <;> (first | omega | with_reducible rfl)) | (simp; done) | (simp; omega)) ?_)))
   | refine x_then_ret ?_)
   | (refine z_isnil ?_; first
   | refine z_list ?_)
   | (refine z_isop ?_; first
   | refine o_move rfl (by decide) ?_
   | refine o_assign rfl (by decide) ?_
   | refine o_not rfl (by decide) ?_))
theorem dder_arg (T : Tq) (l a g : Int) (b nb : Nat) (s : Nat → Bool) (fr : List Chunk) (hD : Rds fr (some ⟨b, 0, none⟩) (dt nb l)) (hN : Rds fr (some ⟨nb, 0, none⟩) (dnn T)) (hg : 0 ≤ g) (h : isN T a g) (hne : (al s 1024).length = 0) : Does Try.prog 28 [.pointer (some ⟨b, 0, none⟩), .int .i64 a, .int .u64 g, .agg (bs s).toArray] fr (fun _ : Unit => True) (fun _ => .tuple #[.int .i64 0, .int .u64 0, .int .i64 1]) (fun _ => fr) := by
  intro w hw
  refine f_enter Try.func28 rfl Try.ntmps28 rfl hw ?_
  repeat' (first
   | ((refine z_isdst 7 ?_; refine o_boxa (vs := bs s) rfl rfl (by decide) fun g7 => ?_))
   | ((refine z_isdst 15 ?_; refine o_callr rfl Try.func27 rfl rfl rfl (dis_y T l a g b nb _ (hD.sub (List.sublist_append_right [_] _)) (hN.sub (List.sublist_append_right [_] _)) hg h) (by decide) ?_))
   | (refine s_is ?_; first
   | (refine s_isret ?_; first
   | exact f_r3 rfl (res_t rfl) (res_t rfl) (res_t rfl) () trivial rfl (fun w h => ((h.sel 1 [0] (by decide)).mask [false])))
   | (refine s_isw ?_; first
   | refine c_seq ?_
   | refine c_region ?_
   | refine c_skip ?_
   | refine c_ret ?_
   | (refine s_iscond ?_; first
   | (refine c_true rfl (by first | with_reducible rfl | with_reducible assumption | ((with_reducible refine decide_eq_true ?_); first | with_reducible rfl | with_reducible assumption | omega)) ?_)
   | (refine c_false rfl (by first | (simp only [Bool.not_eq_false', decide_eq_true_eq]; omega) | (with_reducible assumption) | (rw [decide_eq_false] <;> (first | omega | with_reducible rfl)) | (rw [decide_eq_true] <;> (first | omega | with_reducible rfl)) | (simp; done) | (simp; omega)) ?_)))
   | refine x_then_ret ?_)
   | (refine z_isnil ?_; first
   | refine z_list ?_)
   | (refine z_isop ?_; first
   | (refine z_isbin ?_; first
   | (refine z_isb .eql ?_; first
   | refine o_eq rfl rfl (by decide) ?_))
   | (refine z_isload ?_; first
   | (refine z_ldw tabOk rfl rfl ?_; first
   | (refine o_loadwm tabOk rfl rfl rfl (by repeat' (first | exact List.mem_cons_self | apply List.mem_cons_of_mem)) (by first | rfl | exact dt_len _ _ | exact dnn_len _ | exact dcs_len _ | exact bs_len _ | (simp only [dnn_len, dcs_len, bs_len]; done) | rfl) (by decide) ?_)))
   | (refine z_iscall ?_; first
   | ((refine z_iscallf 42 ?_; refine o_fn rfl Try.func42 rfl rfl rfl (dcount_c _) (by decide) ?_)))
   | refine o_move rfl (by decide) ?_
   | refine o_assign rfl (by decide) ?_
   | refine o_not rfl (by decide) ?_))
theorem dder_perm (T : Tq) (l a g : Int) (b nb : Nat) (s : Nat → Bool) (fr : List Chunk) (hD : Rds fr (some ⟨b, 0, none⟩) (dt nb l)) (hN : Rds fr (some ⟨nb, 0, none⟩) (dnn T)) (hg : 0 ≤ g) (h : isN T a g) (hne : (al s 1024).length ≠ 0) (hin : (al (layS 1 s (T a.toNat).s) 1024).length ≠ 0) : Does Try.prog 28 [.pointer (some ⟨b, 0, none⟩), .int .i64 a, .int .u64 g, .agg (bs s).toArray] fr (fun _ : Unit => True) (fun _ => .tuple #[.int .i64 0, .int .u64 0, .int .i64 2]) (fun _ => fr) := by
  intro w hw
  have ha0 := (isN_in h).1
  have ha1 := (isN_in h).2.1
  have ha : a.toNat < 64 := by omega
  refine f_enter Try.func28 rfl Try.ntmps28 rfl hw ?_
  repeat' (first
   | ((refine z_isdst 7 ?_; refine o_boxa (vs := bs s) rfl rfl (by decide) fun g7 => ?_))
   | ((refine z_isdst 28 ?_; refine o_loadrw tabOk (hN.sub (List.sublist_append_right [_] _)) rfl rfl rfl (es := bs (T a.toNat).s) (bs_len _) (by rw [bs_len]; decide) (dnn_s T ha) (by decide) ?_))
   | ((refine z_isdst 15 ?_; refine o_callr rfl Try.func27 rfl rfl rfl (dis_y T l a g b nb _ (hD.sub (List.sublist_append_right [_] _)) (hN.sub (List.sublist_append_right [_] _)) hg h) (by decide) ?_))
   | (refine s_is ?_; first
   | (refine s_isret ?_; first
   | exact f_r3 rfl (res_t rfl) (res_t rfl) (res_t rfl) () trivial rfl (fun w h => ((h.sel 1 [0] (by decide)).mask [false])))
   | (refine s_isw ?_; first
   | refine c_seq ?_
   | refine c_region ?_
   | refine c_mixed mixed (by kernel_rfl) ?_
   | refine c_skip ?_
   | refine c_ret ?_
   | (refine s_iscond ?_; first
   | (refine c_true rfl (by first | with_reducible rfl | with_reducible assumption | ((with_reducible refine decide_eq_true ?_); first | with_reducible rfl | with_reducible assumption | omega)) ?_)
   | (refine c_false rfl (by first | with_reducible rfl | with_reducible assumption | ((with_reducible refine decide_eq_false ?_); first | with_reducible assumption | omega)) ?_)
   | (refine c_false rfl (by first | (simp only [Bool.not_eq_false', decide_eq_true_eq]; omega) | (with_reducible assumption) | (rw [decide_eq_false] <;> (first | omega | with_reducible rfl)) | (rw [decide_eq_true] <;> (first | omega | with_reducible rfl)) | (simp; done) | (simp; omega)) ?_)))
   | refine x_then_ret ?_)
   | (refine z_isnil ?_; first
   | refine z_list ?_
   | refine z_mixed ?_)
   | (refine z_isop ?_; first
   | refine o_indexskm tabOk rfl rfl rfl rfl (by omega) (by omega) (by decide) ?_
   | (refine z_isbin ?_; first
   | (refine z_isb .eql ?_; first
   | refine o_eq rfl rfl (by decide) ?_)
   | (refine z_isb .gtr ?_; first
   | refine o_gt rfl rfl (by decide) ?_))
   | (refine z_isload ?_; first
   | refine o_loadr tabOk (by first | exact hD | exact hN | exact hD.sub (List.sublist_append_right [_] _) | exact hN.sub (List.sublist_append_right [_] _) | exact hD.sub (List.sublist_append_right [_, _] _) | exact hN.sub (List.sublist_append_right [_, _] _) | exact hD.sub (List.sublist_append_right [_, _, _] _) | exact hN.sub (List.sublist_append_right [_, _, _] _) | assumption) rfl rfl rfl (by first | exact dt_l _ _ | exact dt_n _ _ | exact dnn_at _ (by omega) (by omega) (dcs_g _) | exact dnn_at _ (by omega) (by omega) (dcs_p _) | rfl | rfl) (by decide) ?_
   | (refine z_ldw tabOk rfl rfl ?_; first
   | (refine o_loadwm tabOk rfl rfl rfl (by repeat' (first | exact List.mem_cons_self | apply List.mem_cons_of_mem)) (by first | rfl | exact dt_len _ _ | exact dnn_len _ | exact dcs_len _ | exact bs_len _ | (simp only [dnn_len, dcs_len, bs_len]; done) | rfl) (by decide) ?_)))
   | (refine z_iscall ?_; first
   | ((refine z_iscallf 43 ?_; refine o_fn rfl Try.func43 rfl rfl rfl (rlay_p _ _ _) (by decide) ?_))
   | ((refine z_iscallf 42 ?_; refine o_fn rfl Try.func42 rfl rfl rfl (dcount_c _) (by decide) ?_)))
   | refine o_move rfl (by decide) ?_
   | refine o_assign rfl (by decide) ?_
   | refine o_nil rfl (by decide) ?_
   | refine o_not rfl (by decide) ?_
   | refine o_field0 tabOk rfl rfl rfl rfl rfl (by decide) ?_
   | refine o_field tabOk rfl rfl rfl rfl rfl (by decide) ?_))
theorem dder_busy (T : Tq) (l a g : Int) (b nb : Nat) (s : Nat → Bool) (fr : List Chunk) (hD : Rds fr (some ⟨b, 0, none⟩) (dt nb l)) (hN : Rds fr (some ⟨nb, 0, none⟩) (dnn T)) (hT : Nm T) (hg : 0 ≤ g) (h : isN T a g) (hne : (al s 1024).length ≠ 0) (hin : (al (layS 1 s (T a.toNat).s) 1024).length = 0) (hr : (al (layS 2 s (dl T a 64)) 1024).length ≠ 0) : Does Try.prog 28 [.pointer (some ⟨b, 0, none⟩), .int .i64 a, .int .u64 g, .agg (bs s).toArray] fr (fun _ : Unit => True) (fun _ => .tuple #[.int .i64 0, .int .u64 0, .int .i64 24]) (fun _ => fr) := by
  intro w hw
  have ha0 := (isN_in h).1
  have ha1 := (isN_in h).2.1
  have ha : a.toNat < 64 := by omega
  refine f_enter Try.func28 rfl Try.ntmps28 rfl hw ?_
  repeat' (first
   | ((refine z_isdst 7 ?_; refine o_boxa (vs := bs s) rfl rfl (by decide) fun g7 => ?_))
   | ((refine z_isdst 28 ?_; refine o_loadrw tabOk (hN.sub (List.sublist_append_right [_] _)) rfl rfl rfl (es := bs (T a.toNat).s) (bs_len _) (by rw [bs_len]; decide) (dnn_s T ha) (by decide) ?_))
   | ((refine z_isdst 35 ?_; refine o_callr rfl Try.func38 rfl rfl rfl (dlent_c T l a b nb _ (hD.sub (List.sublist_append_right [_] _)) (hN.sub (List.sublist_append_right [_] _)) hT) (by decide) ?_))
   | ((refine z_isdst 15 ?_; refine o_callr rfl Try.func27 rfl rfl rfl (dis_y T l a g b nb _ (hD.sub (List.sublist_append_right [_] _)) (hN.sub (List.sublist_append_right [_] _)) hg h) (by decide) ?_))
   | (refine s_is ?_; first
   | (refine s_isret ?_; first
   | exact f_r3 rfl (res_t rfl) (res_t rfl) (res_t rfl) () trivial rfl (fun w h => ((h.sel 1 [0] (by decide)).mask [false])))
   | (refine s_isw ?_; first
   | refine c_seq ?_
   | refine c_region ?_
   | refine c_mixed mixed (by kernel_rfl) ?_
   | refine c_skip ?_
   | refine c_ret ?_
   | (refine s_iscond ?_; first
   | (refine c_true rfl (by first | with_reducible rfl | with_reducible assumption | ((with_reducible refine decide_eq_true ?_); first | with_reducible rfl | with_reducible assumption | omega)) ?_)
   | (refine c_false rfl (by first | with_reducible rfl | with_reducible assumption | ((with_reducible refine decide_eq_false ?_); first | with_reducible assumption | omega)) ?_)
   | (refine c_false rfl (by first | (simp only [Bool.not_eq_false', decide_eq_true_eq]; omega) | (with_reducible assumption) | (rw [decide_eq_false] <;> (first | omega | with_reducible rfl)) | (rw [decide_eq_true] <;> (first | omega | with_reducible rfl)) | (simp; done) | (simp; omega)) ?_)))
   | refine x_then_ret ?_)
   | (refine z_isnil ?_; first
   | refine z_list ?_
   | refine z_mixed ?_)
   | (refine z_isop ?_; first
   | refine o_indexskm tabOk rfl rfl rfl rfl (by omega) (by omega) (by decide) ?_
   | (refine z_isbin ?_; first
   | (refine z_isb .eql ?_; first
   | refine o_eq rfl rfl (by decide) ?_)
   | (refine z_isb .gtr ?_; first
   | refine o_gt rfl rfl (by decide) ?_))
   | (refine z_isload ?_; first
   | refine o_loadr tabOk (by first | exact hD | exact hN | exact hD.sub (List.sublist_append_right [_] _) | exact hN.sub (List.sublist_append_right [_] _) | exact hD.sub (List.sublist_append_right [_, _] _) | exact hN.sub (List.sublist_append_right [_, _] _) | exact hD.sub (List.sublist_append_right [_, _, _] _) | exact hN.sub (List.sublist_append_right [_, _, _] _) | assumption) rfl rfl rfl (by first | exact dt_l _ _ | exact dt_n _ _ | exact dnn_at _ (by omega) (by omega) (dcs_g _) | exact dnn_at _ (by omega) (by omega) (dcs_p _) | rfl | rfl) (by decide) ?_
   | (refine z_ldw tabOk rfl rfl ?_; first
   | (refine o_loadwm tabOk rfl rfl rfl (by repeat' (first | exact List.mem_cons_self | apply List.mem_cons_of_mem)) (by first | rfl | exact dt_len _ _ | exact dnn_len _ | exact dcs_len _ | exact bs_len _ | (simp only [dnn_len, dcs_len, bs_len]; done) | rfl) (by decide) ?_)))
   | (refine z_iscall ?_; first
   | ((refine z_iscallf 43 ?_; refine o_fn rfl Try.func43 rfl rfl rfl (rlay_p _ _ _) (by decide) ?_))
   | ((refine z_iscallf 42 ?_; refine o_fn rfl Try.func42 rfl rfl rfl (dcount_c _) (by decide) ?_)))
   | refine o_move rfl (by decide) ?_
   | refine o_assign rfl (by decide) ?_
   | refine o_nil rfl (by decide) ?_
   | refine o_not rfl (by decide) ?_
   | refine o_field0 tabOk rfl rfl rfl rfl rfl (by decide) ?_
   | refine o_field tabOk rfl rfl rfl rfl rfl (by decide) ?_))
theorem dder_full (T : Tq) (l a g : Int) (b nb : Nat) (s : Nat → Bool) (fr : List Chunk) (hD : Rds fr (some ⟨b, 0, none⟩) (dt nb l)) (hN : Rds fr (some ⟨nb, 0, none⟩) (dnn T)) (hT : Nm T) (hg : 0 ≤ g) (h : isN T a g) (hne : (al s 1024).length ≠ 0) (hin : (al (layS 1 s (T a.toNat).s) 1024).length = 0) (hr : (al (layS 2 s (dl T a 64)) 1024).length = 0) (hqj : ∀ j, j < 64 → (T j).g ≠ 0) : Does Try.prog 28 [.pointer (some ⟨b, 0, none⟩), .int .i64 a, .int .u64 g, .agg (bs s).toArray] fr (fun _ : Unit => True) (fun _ => .tuple #[.int .i64 0, .int .u64 0, .int .i64 5]) (fun _ => fr) := by
  intro w hw
  have ha0 := (isN_in h).1
  have ha1 := (isN_in h).2.1
  have ha : a.toNat < 64 := by omega
  refine f_enter Try.func28 rfl Try.ntmps28 rfl hw ?_
  repeat' (first
   | ((refine z_isdst 7 ?_; refine o_boxa (vs := bs s) rfl rfl (by decide) fun g7 => ?_))
   | ((refine z_isdst 28 ?_; refine o_loadrw tabOk (hN.sub (List.sublist_append_right [_] _)) rfl rfl rfl (es := bs (T a.toNat).s) (bs_len _) (by rw [bs_len]; decide) (dnn_s T ha) (by decide) ?_))
   | ((refine z_isdst 35 ?_; refine o_callr rfl Try.func38 rfl rfl rfl (dlent_c T l a b nb _ (hD.sub (List.sublist_append_right [_] _)) (hN.sub (List.sublist_append_right [_] _)) hT) (by decide) ?_))
   | ((refine z_isdst 15 ?_; refine o_callr rfl Try.func27 rfl rfl rfl (dis_y T l a g b nb _ (hD.sub (List.sublist_append_right [_] _)) (hN.sub (List.sublist_append_right [_] _)) hg h) (by decide) ?_))
   | (refine s_is ?_; first
   | (refine s_isw ?_; first
   | (refine s_isloop ?_; first
   | ((refine c_loop (X := Nat) (fun k => k ≤ 64) (fun k => [(0, .pointer (some ⟨b, 0, none⟩)), (11, .int .i64 k)]) (fun k => cells g7 36 (bs s) :: fr) (fun k => 64 - k) 0 (Nat.zero_le _) ⟨rfl, rfl, trivial⟩ (fun w h => h) (fun k hk => ?_); refine hold ?_)))
   | refine c_seq ?_
   | refine c_block ?_
   | refine c_region ?_
   | refine c_mixed mixed (by kernel_rfl) ?_
   | refine c_skip ?_
   | (refine s_iscond ?_; first
   | (refine c_false rfl (by first | with_reducible rfl | with_reducible assumption | ((with_reducible refine decide_eq_false ?_); first | with_reducible assumption | omega)) ?_)
   | (refine c_false rfl (by first | (simp only [Bool.not_eq_false', decide_eq_true_eq]; omega) | (with_reducible assumption) | (rw [decide_eq_false] <;> (first | omega | with_reducible rfl)) | (rw [decide_eq_true] <;> (first | omega | with_reducible rfl)) | (simp; done) | (simp; omega)) ?_))))
   | (refine z_isnil ?_; first
   | refine z_list ?_
   | refine z_mixed ?_)
   | (refine z_isop ?_; first
   | refine o_indexskm tabOk rfl rfl rfl rfl (by omega) (by omega) (by decide) ?_
   | (refine z_isbin ?_; first
   | (refine z_isb .eql ?_; first
   | refine o_eq rfl rfl (by decide) ?_)
   | (refine z_isb .gtr ?_; first
   | refine o_gt rfl rfl (by decide) ?_))
   | (refine z_isload ?_; first
   | refine o_loadr tabOk (by first | exact hD | exact hN | exact hD.sub (List.sublist_append_right [_] _) | exact hN.sub (List.sublist_append_right [_] _) | exact hD.sub (List.sublist_append_right [_, _] _) | exact hN.sub (List.sublist_append_right [_, _] _) | exact hD.sub (List.sublist_append_right [_, _, _] _) | exact hN.sub (List.sublist_append_right [_, _, _] _) | assumption) rfl rfl rfl (by first | exact dt_l _ _ | exact dt_n _ _ | exact dnn_at _ (by omega) (by omega) (dcs_g _) | exact dnn_at _ (by omega) (by omega) (dcs_p _) | rfl | rfl) (by decide) ?_
   | (refine z_ldw tabOk rfl rfl ?_; first
   | (refine o_loadwm tabOk rfl rfl rfl (by repeat' (first | exact List.mem_cons_self | apply List.mem_cons_of_mem)) (by first | rfl | exact dt_len _ _ | exact dnn_len _ | exact dcs_len _ | exact bs_len _ | (simp only [dnn_len, dcs_len, bs_len]; done) | rfl) (by decide) ?_)))
   | (refine z_iscall ?_; first
   | ((refine z_iscallf 43 ?_; refine o_fn rfl Try.func43 rfl rfl rfl (rlay_p _ _ _) (by decide) ?_))
   | ((refine z_iscallf 42 ?_; refine o_fn rfl Try.func42 rfl rfl rfl (dcount_c _) (by decide) ?_)))
   | refine o_move rfl (by decide) ?_
   | refine o_assign rfl (by decide) ?_
   | refine o_nil rfl (by decide) ?_
   | refine o_not rfl (by decide) ?_
   | refine o_field0 tabOk rfl rfl rfl rfl rfl (by decide) ?_
   | refine o_field tabOk rfl rfl rfl rfl rfl (by decide) ?_))
  refine Hold.go ?_
  by_cases hkq : k < 64
  · have hgk := hqj k hkq
    repeat' (first
     | (refine s_is ?_; first
     | (refine s_isagain ?_; first
     | exact c_again (k + 1) (by omega) (by omega) ⟨rfl, rfl, trivial⟩ (fun w h => h))
     | (refine s_isw ?_; first
     | refine c_seq ?_
     | refine c_block ?_
     | refine c_region ?_
     | refine c_skip ?_
     | (refine s_iscond ?_; first
     | (refine c_true rfl (by first | with_reducible rfl | with_reducible assumption | ((with_reducible refine decide_eq_true ?_); first | with_reducible rfl | with_reducible assumption | omega)) ?_)
     | (refine c_false rfl (by first | (simp only [Bool.not_eq_false', decide_eq_true_eq]; omega) | (with_reducible assumption) | (rw [decide_eq_false] <;> (first | omega | with_reducible rfl)) | (rw [decide_eq_true] <;> (first | omega | with_reducible rfl)) | (simp; done) | (simp; omega)) ?_))))
     | (refine z_isnil ?_; first
     | refine z_list ?_)
     | (refine z_isop ?_; first
     | refine o_indexskm tabOk rfl rfl rfl rfl (by omega) (by omega) (by decide) ?_
     | (refine z_isbin ?_; first
     | (refine z_isb .add ?_; first
     | refine o_add rfl rfl (by omega) (by omega) (by decide) ?_)
     | (refine z_isb .eql ?_; first
     | refine o_eq rfl rfl (by decide) ?_)
     | (refine z_isb .lss ?_; first
     | refine o_lt rfl rfl (by decide) ?_))
     | (refine z_isload ?_; first
     | refine o_loadr tabOk (by first | exact hD | exact hN | exact hD.sub (List.sublist_append_right [_] _) | exact hN.sub (List.sublist_append_right [_] _) | exact hD.sub (List.sublist_append_right [_, _] _) | exact hN.sub (List.sublist_append_right [_, _] _) | exact hD.sub (List.sublist_append_right [_, _, _] _) | exact hN.sub (List.sublist_append_right [_, _, _] _) | assumption) rfl rfl rfl (by first | exact dt_l _ _ | exact dt_n _ _ | exact dnn_at _ (by omega) (by omega) (dcs_g _) | exact dnn_at _ (by omega) (by omega) (dcs_p _) | rfl | rfl) (by decide) ?_)
     | refine o_move rfl (by decide) ?_
     | refine o_assign rfl (by decide) ?_
     | refine o_nil rfl (by decide) ?_
     | refine o_field0 tabOk rfl rfl rfl rfl rfl (by decide) ?_
     | refine o_field tabOk rfl rfl rfl rfl rfl (by decide) ?_))
  · obtain rfl : k = 64 := by omega
    repeat' (first
     | (refine s_is ?_; first
     | (refine s_isret ?_; first
     | exact f_r3 rfl (res_t rfl) (res_t rfl) (res_t rfl) () trivial rfl (fun w h => ((h.sel 1 [0] (by decide)).mask [false])))
     | (refine s_isw ?_; first
     | refine c_seq ?_
     | refine c_region ?_
     | refine c_ret ?_
     | refine c_exit ?_
     | (refine s_iscond ?_; first
     | (refine c_false rfl (by first | with_reducible rfl | with_reducible assumption | ((with_reducible refine decide_eq_false ?_); first | with_reducible assumption | omega)) ?_))))
     | (refine z_isnil ?_; first
     | refine z_list ?_)
     | (refine z_isop ?_; first
     | (refine z_isbin ?_; first
     | (refine z_isb .lss ?_; first
     | refine o_lt rfl rfl (by decide) ?_))
     | refine o_move rfl (by decide) ?_
     | refine o_assign rfl (by decide) ?_))
set_option maxHeartbeats 4000000 in
theorem dder_ok (T : Tq) (l a g : Int) (b nb : Nat) (s : Nat → Bool) (A : Option Addr) (c : Nat) (fr : List Chunk) (hT : Nm T) (hg : 0 ≤ g) (h : isN T a g) (hne : (al s 1024).length ≠ 0) (hin : (al (layS 1 s (T a.toNat).s) 1024).length = 0) (hr : (al (layS 2 s (dl T a 64)) 1024).length = 0) (q : Nat) (hq : q < 64) (hq0 : (T q).g = 0) (hqj : ∀ j, j < q → (T j).g ≠ 0) (hl0 : 0 ≤ l) (hl1 : l < 18446744073709551615) : Does Try.prog 28 [.pointer (some ⟨b, 0, none⟩), .int .i64 a, .int .u64 g, .agg (bs s).toArray] (cells b 43 (dt nb l) :: cells nb 40 (dnn T) :: fr) (fun _ : Unit => True) (fun _ => .tuple #[.int .i64 q, .int .u64 (l + 1), .int .i64 0]) (fun _ => cells b 43 (dt nb (l + 1)) :: cells nb 40 (dnn (upd T q ⟨l + 1, a, A, c, s⟩)) :: fr) := by
  intro w hw
  have ha0 := (isN_in h).1
  have ha1 := (isN_in h).2.1
  have ha : a.toNat < 64 := by omega
  have hwr : IntKind.u64.wrap (l + 1) = l + 1 := by
    simp [IntKind.wrap, IntKind.bits, IntKind.signed]; omega
  refine f_enter Try.func28 rfl Try.ntmps28 rfl hw ?_
  repeat' (first
   | ((refine z_isdst 7 ?_; refine o_boxa (vs := bs s) rfl rfl (by decide) fun g7 => ?_))
   | ((refine z_isdst 28 ?_; refine o_loadrw tabOk (cells_rds 2 rfl) rfl rfl rfl (es := bs (T a.toNat).s) (bs_len _) (by rw [bs_len]; decide) (dnn_s T ha) (by decide) ?_))
   | ((refine z_isdst 35 ?_; refine o_callr rfl Try.func38 rfl rfl rfl (dlent_c T l a b nb _ (cells_rds 1 rfl) (cells_rds 2 rfl) hT) (by decide) ?_))
   | ((refine z_isdst 15 ?_; refine o_callr rfl Try.func27 rfl rfl rfl (dis_y T l a g b nb _ (cells_rds 1 rfl) (cells_rds 2 rfl) hg h) (by decide) ?_))
   | (refine s_is ?_; first
   | (refine s_isw ?_; first
   | (refine s_isloop ?_; first
   | ((refine c_loop (X := Nat) (fun k => k ≤ q) (fun k => [(0, .pointer (some ⟨b, 0, none⟩)), (1, .int .i64 a), (7, .pointer (some ⟨g7, 0, none⟩)), (11, .int .i64 k)]) (fun k => cells g7 36 (bs s) :: cells b 43 (dt nb l) :: cells nb 40 (dnn T) :: fr) (fun k => q - k) 0 (Nat.zero_le _) ⟨rfl, rfl, rfl, rfl, trivial⟩ (fun w h => h) (fun k hk => ?_); refine hold ?_)))
   | refine c_seq ?_
   | refine c_block ?_
   | refine c_region ?_
   | refine c_mixed mixed (by kernel_rfl) ?_
   | refine c_skip ?_
   | (refine s_iscond ?_; first
   | (refine c_false rfl (by first | with_reducible rfl | with_reducible assumption | ((with_reducible refine decide_eq_false ?_); first | with_reducible assumption | omega)) ?_)
   | (refine c_false rfl (by first | (simp only [Bool.not_eq_false', decide_eq_true_eq]; omega) | (with_reducible assumption) | (rw [decide_eq_false] <;> (first | omega | with_reducible rfl)) | (rw [decide_eq_true] <;> (first | omega | with_reducible rfl)) | (simp; done) | (simp; omega)) ?_))))
   | (refine z_isnil ?_; first
   | refine z_list ?_
   | refine z_mixed ?_)
   | (refine z_isop ?_; first
   | refine o_indexskm tabOk rfl rfl rfl rfl (by omega) (by omega) (by decide) ?_
   | (refine z_isbin ?_; first
   | (refine z_isb .eql ?_; first
   | refine o_eq rfl rfl (by decide) ?_)
   | (refine z_isb .gtr ?_; first
   | refine o_gt rfl rfl (by decide) ?_))
   | (refine z_isload ?_; first
   | refine o_loadr tabOk (cells_rds 1 rfl) rfl rfl rfl (by first | exact dt_l _ _ | exact dt_n _ _ | exact dnn_at _ (by omega) (by omega) (dcs_g _) | exact dnn_at _ (by omega) (by omega) (dcs_p _) | rfl | rfl) (by decide) ?_
   | (refine z_ldw tabOk rfl rfl ?_; first
   | (refine o_loadwm tabOk rfl rfl rfl (by repeat' (first | exact List.mem_cons_self | apply List.mem_cons_of_mem)) (by first | rfl | exact dt_len _ _ | exact dnn_len _ | exact dcs_len _ | exact bs_len _ | (simp only [dnn_len, dcs_len, bs_len]; done) | rfl) (by decide) ?_)))
   | (refine z_iscall ?_; first
   | ((refine z_iscallf 43 ?_; refine o_fn rfl Try.func43 rfl rfl rfl (rlay_p _ _ _) (by decide) ?_))
   | ((refine z_iscallf 42 ?_; refine o_fn rfl Try.func42 rfl rfl rfl (dcount_c _) (by decide) ?_)))
   | refine o_move rfl (by decide) ?_
   | refine o_assign rfl (by decide) ?_
   | refine o_nil rfl (by decide) ?_
   | refine o_not rfl (by decide) ?_
   | refine o_field0 tabOk rfl rfl rfl rfl rfl (by decide) ?_
   | refine o_field tabOk rfl rfl rfl rfl rfl (by decide) ?_))
  refine Hold.go ?_
  by_cases hkq : k < q
  · have hgk := hqj k hkq
    repeat' (first
     | (refine s_is ?_; first
     | (refine s_isagain ?_; first
     | exact c_again (k + 1) (by omega) (by omega) ⟨rfl, rfl, rfl, rfl, trivial⟩ (fun w h => h))
     | (refine s_isw ?_; first
     | refine c_seq ?_
     | refine c_block ?_
     | refine c_region ?_
     | refine c_skip ?_
     | (refine s_iscond ?_; first
     | (refine c_true rfl (by first | with_reducible rfl | with_reducible assumption | ((with_reducible refine decide_eq_true ?_); first | with_reducible rfl | with_reducible assumption | omega)) ?_)
     | (refine c_false rfl (by first | (simp only [Bool.not_eq_false', decide_eq_true_eq]; omega) | (with_reducible assumption) | (rw [decide_eq_false] <;> (first | omega | with_reducible rfl)) | (rw [decide_eq_true] <;> (first | omega | with_reducible rfl)) | (simp; done) | (simp; omega)) ?_))))
     | (refine z_isnil ?_; first
     | refine z_list ?_)
     | (refine z_isop ?_; first
     | refine o_indexskm tabOk rfl rfl rfl rfl (by omega) (by omega) (by decide) ?_
     | (refine z_isbin ?_; first
     | (refine z_isb .add ?_; first
     | refine o_add rfl rfl (by omega) (by omega) (by decide) ?_)
     | (refine z_isb .eql ?_; first
     | refine o_eq rfl rfl (by decide) ?_)
     | (refine z_isb .lss ?_; first
     | refine o_lt rfl rfl (by decide) ?_))
     | (refine z_isload ?_; first
     | refine o_loadr tabOk (cells_rds 1 rfl) rfl rfl rfl (by first | exact dt_l _ _ | exact dt_n _ _ | exact dnn_at _ (by omega) (by omega) (dcs_g _) | exact dnn_at _ (by omega) (by omega) (dcs_p _) | rfl | rfl) (by decide) ?_
     | refine o_loadr tabOk (cells_rds 2 rfl) rfl rfl rfl (by first | exact dt_l _ _ | exact dt_n _ _ | exact dnn_at _ (by omega) (by omega) (dcs_g _) | exact dnn_at _ (by omega) (by omega) (dcs_p _) | rfl | rfl) (by decide) ?_)
     | refine o_move rfl (by decide) ?_
     | refine o_assign rfl (by decide) ?_
     | refine o_nil rfl (by decide) ?_
     | refine o_field0 tabOk rfl rfl rfl rfl rfl (by decide) ?_
     | refine o_field tabOk rfl rfl rfl rfl rfl (by decide) ?_))
  · obtain rfl : k = q := by omega
    repeat' (first
     | ((refine z_isdst 57 ?_; refine o_addw rfl rfl (by decide) ?_; rw [hwr]))
     | ((refine z_isdst 71 ?_; refine o_buildf (t := 40) (vs := dcs ⟨l + 1, a, A, c, s⟩) tabOk rfl rfl (by kernel_rfl) rfl (dcs_filled (l + 1) a A c s) (by decide) ?_))
     | (refine s_is ?_; first
     | (refine s_isret ?_; first
     | exact f_r3 rfl (res_t rfl) (res_t rfl) (res_t rfl) () trivial rfl (fun w h => ((h.sel 1 [0] (by decide)).mask [false])))
     | (refine s_isw ?_; first
     | refine c_seq ?_
     | refine c_block ?_
     | refine c_region ?_
     | refine c_mixed mixed (by kernel_rfl) ?_
     | refine c_skip ?_
     | refine c_ret ?_
     | (refine s_iscond ?_; first
     | (refine c_true rfl (by first | with_reducible rfl | with_reducible assumption | ((with_reducible refine decide_eq_true ?_); first | with_reducible rfl | with_reducible assumption | omega)) ?_)
     | (refine c_true rfl (by first | (simp only [Bool.not_eq_true', decide_eq_false_iff_not]; omega) | (with_reducible assumption) | (rw [decide_eq_false] <;> (first | omega | with_reducible rfl)) | (rw [decide_eq_true] <;> (first | omega | with_reducible rfl)) | (simp; done) | (simp; omega)) ?_)))
     | refine x_then_ret ?_
     | refine x_block_ret _ ?_)
     | (refine z_isnil ?_; first
     | refine z_list ?_
     | refine z_mixed ?_)
     | (refine z_isop ?_; first
     | refine o_indexskm tabOk rfl rfl rfl rfl (by omega) (by omega) (by decide) ?_
     | (refine z_isbin ?_; first
     | (refine z_isb .eql ?_; first
     | refine o_eq rfl rfl (by decide) ?_)
     | (refine z_isb .lss ?_; first
     | refine o_lt rfl rfl (by decide) ?_))
     | (refine z_isload ?_; first
     | refine o_loadr tabOk (cells_rds 1 rfl) rfl rfl rfl (by first | exact dt_l _ _ | exact dt_n _ _ | exact dnn_at _ (by omega) (by omega) (dcs_g _) | exact dnn_at _ (by omega) (by omega) (dcs_p _) | rfl | rfl) (by decide) ?_
     | refine o_loadr tabOk (cells_rds 2 rfl) rfl rfl rfl (by first | exact dt_l _ _ | exact dt_n _ _ | exact dnn_at _ (by omega) (by omega) (dcs_g _) | exact dnn_at _ (by omega) (by omega) (dcs_p _) | rfl | rfl) (by decide) ?_
     | (refine z_ldw tabOk rfl rfl ?_; first
     | (refine o_loadwm tabOk rfl rfl rfl (by repeat' (first | exact List.mem_cons_self | apply List.mem_cons_of_mem)) (by first | rfl | exact dt_len _ _ | exact dnn_len _ | exact dcs_len _ | exact bs_len _ | (simp only [dnn_len, dcs_len, bs_len]; done) | rfl) (by decide) ?_)))
     | (refine z_isstore ?_; first
     | refine o_storew_at rfl 2 tabOk rfl rfl rfl rfl (dcs_len _) (dcs_one _) (dnn_fit _ (i := Int.toNat k) hq _) (dnn_puty _ (i := Int.toNat k) hq _) ?_
     | (refine z_st1 rfl rfl ?_; first
     | ((refine z_sti 1 rfl rfl ?_; refine o_store1 rfl tabOk rfl rfl rfl rfl rfl (by first | exact dt_l _ _ | exact dt_n _ _ | exact dnn_at _ (by omega) (by omega) (dcs_g _) | exact dnn_at _ (by omega) (by omega) (dcs_p _) | rfl | rfl) (by first | exact dt_set _ _ _ | rfl | rfl) ?_))))
     | refine o_move rfl (by decide) ?_
     | refine o_assign rfl (by decide) ?_
     | refine o_nil rfl (by decide) ?_
     | refine o_field0 tabOk rfl rfl rfl rfl rfl (by decide) ?_
     | refine o_field tabOk rfl rfl rfl rfl rfl (by decide) ?_))
end Go.Proofs.Ytfegdehgnhomnaa
