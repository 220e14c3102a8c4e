/-
Shadow: Bind, Unbind, Fill, Uses, Pages.
-/
import Derived.Test.YtnckabgaichkkaaSh1
namespace Go.Proofs.Ytnckabgaichkkaa
set_option linter.unusedVariables false
set_option linter.unusedSimpArgs false
open Eng
theorem bput_at_y (b m : Nat) (M : Mp) (s p f : Int) (x : Bool) (h : InP s p) (hf : 0 ≤ f ∧ f < 512) (c1 c2 : Chunk) (fr : List Chunk) : Does Try.prog 22 [.pointer (some ⟨b, 0, none⟩), .int .i64 s, .int .i64 p, .agg #[.int .i64 f, .bool x]] ([mpc m M] ++ (c1 :: c2 :: cells b 78 [.map (some m)] :: fr)) (fun _ : Unit => True) (fun _ => .bool true) (fun _ => [mpc m (upM M s p (f, x))] ++ (c1 :: c2 :: cells b 78 [.map (some m)] :: fr)) :=
  (does_perm (bput_y b m M s p f x h hf (c1 :: c2 :: fr)) (sel_perm _ 4 [3, 0, 1, 2] (by decide))).post fun _ _ => ⟨(), trivial, rfl, fun B w hS => hS.sel 4 [1, 2, 3, 0] (by decide)⟩
theorem bput_at_n (b m : Nat) (M : Mp) (s p f : Int) (x : Bool) (h : ¬ (InP s p ∧ 0 ≤ f ∧ f < 512)) (c1 c2 : Chunk) (fr : List Chunk) : Does Try.prog 22 [.pointer (some ⟨b, 0, none⟩), .int .i64 s, .int .i64 p, .agg #[.int .i64 f, .bool x]] ([mpc m M] ++ (c1 :: c2 :: cells b 78 [.map (some m)] :: fr)) (fun _ : Unit => True) (fun _ => .bool false) (fun _ => [mpc m M] ++ (c1 :: c2 :: cells b 78 [.map (some m)] :: fr)) :=
  (does_perm (bput_n b m M s p f x h (c1 :: c2 :: fr)) (sel_perm _ 4 [3, 0, 1, 2] (by decide))).post fun _ _ => ⟨(), trivial, rfl, fun B w hS => hS.sel 4 [1, 2, 3, 0] (by decide)⟩
attribute [local irreducible] Eng.Hold Eng.Z Eng.S Eng.cells Eng.old Eng.own Eng.mpc Eng.rgc Eng.onM Eng.fM Eng.wM Eng.upM Eng.delM
attribute [local irreducible] uss pcs pgs ilS dls row xs dmf rmM aM1 aM2 eqB usf
theorem sbind_y (sb b m o : Nat) (M O : Mp) (s p : Int) (f : Int) (x : Bool) (h : InP s p) (hf : 0 ≤ f ∧ f < 512) (fr : List Chunk) : Does Try.prog 39 [.pointer (some ⟨sb, 0, none⟩), .int .i64 s, .int .i64 p, .agg #[.int .i64 f, .bool x]] (cells sb 89 [.pointer (some ⟨b, 0, none⟩), .map (some o)] :: cells b 78 [.map (some m)] :: mpc m (M) :: mpc o (O) :: fr) (fun _ : Unit => True) (fun _ => .bool (onM O s p)) (fun _ => cells sb 89 [.pointer (some ⟨b, 0, none⟩), .map (some o)] :: cells b 78 [.map (some m)] :: mpc m (upM M s p (f, x)) :: mpc o (delM O s p) :: fr) := by
  intro w hw
  refine f_enter Try.func39 rfl Try.ntmps39 rfl hw ?_
  repeat' (first
   | ((refine s_sel 5 [3, 0, 1, 2, 4] (by decide) ?_; refine c_free1 ⟨[19], []⟩ [0, 1, 2, 3, 4, 5, 6, 7, 8, 9, 10, 11, 12] (id := 1) mixed (by kernel_rfl) ?_))
   | ((refine z_isdst 19 ?_; refine o_callx (po := fun _ => [mpc m (upM M s p (f, x))]) Try.func22 rfl rfl rfl (bput_at_y b m M s p f x h hf _ _ _) (by decide) (by decide) fun _ _ => ?_))
   | refine z_mono0w ?_
   | ((refine z_isdst 25 ?_; refine z_sel rfl 5 [2, 3, 0, 4, 1] (by decide) ?_; refine o_calla Try.func55 rfl rfl rfl (stale_c sb b m o (upM M s p (f, x)) O s p _) (by decide) fun _ _ => ?_))
   | ((refine z_isdst 7 ?_; refine o_boxa (vs := [.int .i64 f, .bool x]) rfl rfl (by decide) fun g7 => ?_))
   | (refine s_is ?_; first
   | (refine s_isret ?_; first
   | exact f_r1 rfl (res_t rfl) () trivial rfl (fun w h => ((h.sel 5 [0, 1, 2, 3, 4] (by decide)).mask [true, true, true, true, false])))
   | (refine s_isw ?_; first
   | refine c_seq ?_
   | refine c_region ?_
   | refine c_skip ?_
   | refine c_ret ?_
   | (refine s_iscond ?_; first
   | (refine c_false rfl (by first | (simp only [Bool.not_eq_false', decide_eq_true_eq]; omega) | (with_reducible assumption) | (rw [decide_eq_false] <;> (first | omega | with_reducible rfl)) | (rw [decide_eq_true] <;> (first | omega | with_reducible rfl)) | (simp; done) | (simp; omega)) ?_))))
   | (refine z_isg0 ?_; first
   | (refine z_want0 rfl rfl (by first | (simp only [Bool.not_eq_false', decide_eq_true_eq]; omega) | (with_reducible assumption) | (rw [decide_eq_false] <;> (first | omega | with_reducible rfl)) | (rw [decide_eq_true] <;> (first | omega | with_reducible rfl)) | (simp; done) | (simp; omega)) ?_))
   | (refine z_isnil ?_; first
   | refine z_list ?_)
   | (refine z_isop ?_; first
   | (refine z_isbin ?_; first
   | (refine z_isb .eql ?_; first
   | refine o_peq tabOk rfl rfl (by decide) ?_))
   | (refine z_isload ?_; first
   | (refine z_ld1 tabOk rfl rfl ?_; first
   | refine o_loadm tabOk rfl rfl rfl (by repeat' (first | exact List.mem_cons_self | apply List.mem_cons_of_mem)) (by first | rfl | rfl) (by decide) ?_)
   | (refine z_ldw tabOk rfl rfl ?_; first
   | refine o_loadwm tabOk rfl rfl rfl (by repeat' (first | exact List.mem_cons_self | apply List.mem_cons_of_mem)) (by first | rfl | rfl) (by decide) ?_))
   | (refine z_ispick ?_; first
   | (refine o_pick0 rfl (by first | (simp only [Bool.not_eq_false', decide_eq_true_eq]; omega) | (with_reducible assumption) | (rw [decide_eq_false] <;> (first | omega | with_reducible rfl)) | (rw [decide_eq_true] <;> (first | omega | with_reducible rfl)) | (simp; done) | (simp; omega)) rfl (by decide) ?_))
   | refine o_move rfl (by decide) ?_
   | refine o_assign rfl (by decide) ?_
   | refine o_nil rfl (by decide) ?_
   | refine o_not rfl (by decide) ?_
   | refine o_field0 tabOk rfl rfl rfl rfl rfl (by decide) ?_))
theorem sbind_n (sb b m o : Nat) (M O : Mp) (s p : Int) (f : Int) (x : Bool) (h : ¬ (InP s p ∧ 0 ≤ f ∧ f < 512)) (fr : List Chunk) : Does Try.prog 39 [.pointer (some ⟨sb, 0, none⟩), .int .i64 s, .int .i64 p, .agg #[.int .i64 f, .bool x]] (cells sb 89 [.pointer (some ⟨b, 0, none⟩), .map (some o)] :: cells b 78 [.map (some m)] :: mpc m (M) :: mpc o (O) :: fr) (fun _ : Unit => True) (fun _ => .bool false) (fun _ => cells sb 89 [.pointer (some ⟨b, 0, none⟩), .map (some o)] :: cells b 78 [.map (some m)] :: mpc m (M) :: mpc o (O) :: fr) := by
  intro w hw
  refine f_enter Try.func39 rfl Try.ntmps39 rfl hw ?_
  repeat' (first
   | ((refine s_sel 5 [3, 0, 1, 2, 4] (by decide) ?_; refine c_free1 ⟨[19], []⟩ [0, 1, 2, 3, 4, 5, 6, 7, 8, 9, 10, 11, 12] (id := 1) mixed (by kernel_rfl) ?_))
   | ((refine z_isdst 19 ?_; refine o_callx (po := fun _ => [mpc m M]) Try.func22 rfl rfl rfl (bput_at_n b m M s p f x h _ _ _) (by decide) (by decide) fun _ _ => ?_))
   | refine z_mono0w ?_
   | ((refine z_isdst 7 ?_; refine o_boxa (vs := [.int .i64 f, .bool x]) rfl rfl (by decide) fun g7 => ?_))
   | (refine s_is ?_; first
   | (refine s_isret ?_; first
   | exact f_r1 rfl (res_t rfl) () trivial rfl (fun w h => ((h.sel 5 [2, 3, 0, 4, 1] (by decide)).mask [true, true, true, true, false])))
   | (refine s_isw ?_; first
   | refine c_seq ?_
   | refine c_region ?_
   | refine c_ret ?_
   | (refine s_iscond ?_; first
   | (refine c_true rfl (by first | (simp only [Bool.not_eq_true', decide_eq_false_iff_not]; omega) | (with_reducible assumption) | (rw [decide_eq_false] <;> (first | omega | with_reducible rfl)) | (rw [decide_eq_true] <;> (first | omega | with_reducible rfl)) | (simp; done) | (simp; omega)) ?_)))
   | refine x_then_ret ?_)
   | (refine z_isg0 ?_; first
   | (refine z_want0 rfl rfl (by first | (simp only [Bool.not_eq_false', decide_eq_true_eq]; omega) | (with_reducible assumption) | (rw [decide_eq_false] <;> (first | omega | with_reducible rfl)) | (rw [decide_eq_true] <;> (first | omega | with_reducible rfl)) | (simp; done) | (simp; omega)) ?_))
   | (refine z_isnil ?_; first
   | refine z_list ?_)
   | (refine z_isop ?_; first
   | (refine z_isbin ?_; first
   | (refine z_isb .eql ?_; first
   | refine o_peq tabOk rfl rfl (by decide) ?_))
   | (refine z_isload ?_; first
   | (refine z_ld1 tabOk rfl rfl ?_; first
   | refine o_loadm tabOk rfl rfl rfl (by repeat' (first | exact List.mem_cons_self | apply List.mem_cons_of_mem)) (by first | rfl | rfl) (by decide) ?_)
   | (refine z_ldw tabOk rfl rfl ?_; first
   | refine o_loadwm tabOk rfl rfl rfl (by repeat' (first | exact List.mem_cons_self | apply List.mem_cons_of_mem)) (by first | rfl | rfl) (by decide) ?_))
   | (refine z_ispick ?_; first
   | (refine o_pick0 rfl (by first | (simp only [Bool.not_eq_false', decide_eq_true_eq]; omega) | (with_reducible assumption) | (rw [decide_eq_false] <;> (first | omega | with_reducible rfl)) | (rw [decide_eq_true] <;> (first | omega | with_reducible rfl)) | (simp; done) | (simp; omega)) rfl (by decide) ?_))
   | refine o_move rfl (by decide) ?_
   | refine o_assign rfl (by decide) ?_
   | refine o_nil rfl (by decide) ?_
   | refine o_not rfl (by decide) ?_
   | refine o_field0 tabOk rfl rfl rfl rfl rfl (by decide) ?_))
theorem sunbind_y (sb b m o : Nat) (M O : Mp) (s p : Int) (h : onM M s p = true) (fr : List Chunk) : Does Try.prog 37 [.pointer (some ⟨sb, 0, none⟩), .int .i64 s, .int .i64 p] (cells sb 89 [.pointer (some ⟨b, 0, none⟩), .map (some o)] :: cells b 78 [.map (some m)] :: mpc m (M) :: mpc o (O) :: fr) (fun _ : Unit => True) (fun _ => .tuple #[.bool true, .bool (onM O s p)]) (fun _ => cells sb 89 [.pointer (some ⟨b, 0, none⟩), .map (some o)] :: cells b 78 [.map (some m)] :: mpc m (delM M s p) :: mpc o (delM O s p) :: fr) := by
  intro w hw
  have hdr : ∀ fr', Does Try.prog 23 [.pointer (some ⟨b, 0, none⟩), .int .i64 s, .int .i64 p] (cells b 78 [.map (some m)] :: mpc m M :: fr') (fun _ : Unit => True) (fun _ => .bool true) (fun _ => cells b 78 [.map (some m)] :: mpc m (delM M s p) :: fr') := fun fr' => by
    have := bdrop_c b m M s p fr'
    rw [h] at this
    exact this
  refine f_enter Try.func37 rfl Try.ntmps37 rfl hw ?_
  repeat' (first
   | ((refine z_isdst 17 ?_; refine z_sel rfl 4 [1, 2, 0, 3] (by decide) ?_; refine o_calla Try.func23 rfl rfl rfl (hdr _) (by decide) fun _ _ => ?_; refine z_sel rfl 3 [2, 0, 1] (by decide) ?_))
   | ((refine z_isdst 23 ?_; refine o_calla Try.func55 rfl rfl rfl (stale_c sb b m o (delM M s p) O s p _) (by decide) fun _ _ => ?_))
   | (refine s_is ?_; first
   | (refine s_isret ?_; first
   | exact f_r2 rfl (res_t rfl) (res_t rfl) () trivial rfl (fun w h => h))
   | (refine s_isw ?_; first
   | refine c_seq ?_
   | refine c_region ?_
   | refine c_skip ?_
   | refine c_ret ?_
   | (refine s_iscond ?_; first
   | (refine c_false rfl (by first | (simp only [Bool.not_eq_false', decide_eq_true_eq]; omega) | (with_reducible assumption) | (rw [decide_eq_false] <;> (first | omega | with_reducible rfl)) | (rw [decide_eq_true] <;> (first | omega | with_reducible rfl)) | (simp; done) | (simp; omega)) ?_))))
   | (refine z_isg0 ?_; first
   | (refine z_want0 rfl rfl (by first | (simp only [Bool.not_eq_false', decide_eq_true_eq]; omega) | (with_reducible assumption) | (rw [decide_eq_false] <;> (first | omega | with_reducible rfl)) | (rw [decide_eq_true] <;> (first | omega | with_reducible rfl)) | (simp; done) | (simp; omega)) ?_))
   | (refine z_isnil ?_; first
   | refine z_list ?_)
   | (refine z_isop ?_; first
   | (refine z_isbin ?_; first
   | (refine z_isb .eql ?_; first
   | refine o_peq tabOk rfl rfl (by decide) ?_))
   | (refine z_isload ?_; first
   | (refine z_ld1 tabOk rfl rfl ?_; first
   | refine o_loadm tabOk rfl rfl rfl (by repeat' (first | exact List.mem_cons_self | apply List.mem_cons_of_mem)) (by first | rfl | rfl) (by decide) ?_))
   | (refine z_ispick ?_; first
   | (refine o_pick0 rfl (by first | (simp only [Bool.not_eq_false', decide_eq_true_eq]; omega) | (with_reducible assumption) | (rw [decide_eq_false] <;> (first | omega | with_reducible rfl)) | (rw [decide_eq_true] <;> (first | omega | with_reducible rfl)) | (simp; done) | (simp; omega)) rfl (by decide) ?_))
   | refine o_move rfl (by decide) ?_
   | refine o_assign rfl (by decide) ?_
   | refine o_nil rfl (by decide) ?_
   | refine o_not rfl (by decide) ?_
   | refine o_field0 tabOk rfl rfl rfl rfl rfl (by decide) ?_))
theorem sunbind_n (sb b m o : Nat) (M O : Mp) (s p : Int) (h : onM M s p = false) (fr : List Chunk) : Does Try.prog 37 [.pointer (some ⟨sb, 0, none⟩), .int .i64 s, .int .i64 p] (cells sb 89 [.pointer (some ⟨b, 0, none⟩), .map (some o)] :: cells b 78 [.map (some m)] :: mpc m (M) :: mpc o (O) :: fr) (fun _ : Unit => True) (fun _ => .tuple #[.bool false, .bool false]) (fun _ => cells sb 89 [.pointer (some ⟨b, 0, none⟩), .map (some o)] :: cells b 78 [.map (some m)] :: mpc m (M) :: mpc o (O) :: fr) := by
  intro w hw
  have hdr : ∀ fr', Does Try.prog 23 [.pointer (some ⟨b, 0, none⟩), .int .i64 s, .int .i64 p] (cells b 78 [.map (some m)] :: mpc m M :: fr') (fun _ : Unit => True) (fun _ => .bool false) (fun _ => cells b 78 [.map (some m)] :: mpc m (delM M s p) :: fr') := fun fr' => by
    have := bdrop_c b m M s p fr'
    rw [h] at this
    exact this
  rw [delM_off h] at hdr
  refine f_enter Try.func37 rfl Try.ntmps37 rfl hw ?_
  repeat' (first
   | ((refine z_isdst 17 ?_; refine z_sel rfl 4 [1, 2, 0, 3] (by decide) ?_; refine o_calla Try.func23 rfl rfl rfl (hdr _) (by decide) fun _ _ => ?_; refine z_sel rfl 3 [2, 0, 1] (by decide) ?_))
   | (refine s_is ?_; first
   | (refine s_isret ?_; first
   | exact f_r2 rfl (res_t rfl) (res_t rfl) () trivial rfl (fun w h => h))
   | (refine s_isw ?_; first
   | refine c_seq ?_
   | refine c_region ?_
   | refine c_ret ?_
   | (refine s_iscond ?_; first
   | (refine c_true rfl (by first | (simp only [Bool.not_eq_true', decide_eq_false_iff_not]; omega) | (with_reducible assumption) | (rw [decide_eq_false] <;> (first | omega | with_reducible rfl)) | (rw [decide_eq_true] <;> (first | omega | with_reducible rfl)) | (simp; done) | (simp; omega)) ?_)))
   | refine x_then_ret ?_)
   | (refine z_isg0 ?_; first
   | (refine z_want0 rfl rfl (by first | (simp only [Bool.not_eq_false', decide_eq_true_eq]; omega) | (with_reducible assumption) | (rw [decide_eq_false] <;> (first | omega | with_reducible rfl)) | (rw [decide_eq_true] <;> (first | omega | with_reducible rfl)) | (simp; done) | (simp; omega)) ?_))
   | (refine z_isnil ?_; first
   | refine z_list ?_)
   | (refine z_isop ?_; first
   | (refine z_isbin ?_; first
   | (refine z_isb .eql ?_; first
   | refine o_peq tabOk rfl rfl (by decide) ?_))
   | (refine z_isload ?_; first
   | (refine z_ld1 tabOk rfl rfl ?_; first
   | refine o_loadm tabOk rfl rfl rfl (by repeat' (first | exact List.mem_cons_self | apply List.mem_cons_of_mem)) (by first | rfl | rfl) (by decide) ?_))
   | (refine z_ispick ?_; first
   | (refine o_pick0 rfl (by first | (simp only [Bool.not_eq_false', decide_eq_true_eq]; omega) | (with_reducible assumption) | (rw [decide_eq_false] <;> (first | omega | with_reducible rfl)) | (rw [decide_eq_true] <;> (first | omega | with_reducible rfl)) | (simp; done) | (simp; omega)) rfl (by decide) ?_))
   | refine o_move rfl (by decide) ?_
   | refine o_assign rfl (by decide) ?_
   | refine o_nil rfl (by decide) ?_
   | refine o_not rfl (by decide) ?_
   | refine o_field0 tabOk rfl rfl rfl rfl rfl (by decide) ?_))
theorem sfill_y (sb b m o : Nat) (M O : Mp) (s p : Int) (h : onM M s p = true) (fr : List Chunk) : Does Try.prog 38 [.pointer (some ⟨sb, 0, none⟩), .int .i64 s, .int .i64 p] (cells sb 89 [.pointer (some ⟨b, 0, none⟩), .map (some o)] :: cells b 78 [.map (some m)] :: mpc m (M) :: mpc o (O) :: fr) (fun _ : Unit => True) (fun _ => .tuple #[.agg #[.int .i64 (fM M s p), .bool (wM M s p)], .bool true]) (fun _ => cells sb 89 [.pointer (some ⟨b, 0, none⟩), .map (some o)] :: cells b 78 [.map (some m)] :: mpc m (M) :: mpc o (upM O s p (fM M s p, wM M s p)) :: fr) := by
  intro w hw
  have hgt : ∀ fr', Does Try.prog 28 [.pointer (some ⟨sb, 0, none⟩), .int .i64 s, .int .i64 p] (cells sb 89 [.pointer (some ⟨b, 0, none⟩), .map (some o)] :: cells b 78 [.map (some m)] :: mpc m (M) :: mpc o (O) :: fr') (fun _ : Unit => True) (fun _ => .tuple #[.agg #[.int .i64 (fM M s p), .bool (wM M s p)], .bool true]) (fun _ => cells sb 89 [.pointer (some ⟨b, 0, none⟩), .map (some o)] :: cells b 78 [.map (some m)] :: mpc m (M) :: mpc o (O) :: fr') := fun fr' => by
    have := sget_c sb b m o M O s p fr'
    rw [h] at this
    exact this
  refine f_enter Try.func38 rfl Try.ntmps38 rfl hw ?_
  repeat' (first
   | ((refine z_isdst 14 ?_; refine z_sel rfl 5 [1, 2, 3, 4, 0] (by decide) ?_; refine o_calla Try.func28 rfl rfl rfl (hgt _) (by decide) fun _ _ => ?_))
   | ((refine z_isdst 6 ?_; refine o_alloca (e := 36) (vs := [.int .i64 0, .bool false]) rfl (by kernel_rfl) (by decide) fun g6 => ?_))
   | ((refine z_isdst 8 ?_; refine o_alloca (e := 36) (vs := [.int .i64 0, .bool false]) rfl (by kernel_rfl) (by decide) fun g8 => ?_))
   | ((refine z_isdst 24 ?_; refine o_buildf (t := 72) (zs := [.int .i64 0, .int .i64 0]) (vs := [.int .i64 _, .int .i64 _]) tabOk rfl rfl (by kernel_rfl) rfl ⟨_, _, rfl, rfl, Nat.le_of_ble_eq_true rfl, _, _, rfl, rfl, Nat.le_of_ble_eq_true rfl, rfl⟩ (by decide) ?_))
   | (refine s_is ?_; first
   | (refine c_monot 8 (id := 3) mixed (by kernel_rfl) rfl ?_)
   | (refine s_isret ?_; first
   | exact f_r2 rfl (res_c tabOk rfl rfl rfl 5 rfl rfl) (res_t rfl) () trivial rfl (fun w h => ((h.sel 6 [1, 2, 3, 4, 0, 5] (by decide)).mask [true, true, true, true, false, false])))
   | (refine s_isw ?_; first
   | refine c_seq ?_
   | refine c_region ?_
   | refine c_ret ?_
   | (refine s_iscond ?_; first
   | (refine c_true rfl (by first | with_reducible rfl | with_reducible assumption | ((with_reducible refine decide_eq_true ?_); first | with_reducible rfl | with_reducible assumption | omega)) ?_)))
   | refine z_tailm ?_)
   | (refine z_isnil ?_; first
   | refine z_list ?_
   | refine z_mono0 ?_)
   | (refine z_isop ?_; first
   | (refine o_mapup mtS rfl rfl rfl 4 rfl ?_)
   | (refine z_isload ?_; first
   | (refine z_ld1 tabOk rfl rfl ?_; first
   | refine o_loadm tabOk rfl rfl rfl (by repeat' (first | exact List.mem_cons_self | apply List.mem_cons_of_mem)) (by first | rfl | rfl) (by decide) ?_)
   | (refine z_ldw tabOk rfl rfl ?_; first
   | refine o_loadwm tabOk rfl rfl rfl (by repeat' (first | exact List.mem_cons_self | apply List.mem_cons_of_mem)) (by first | rfl | rfl) (by decide) ?_))
   | (refine z_isstore ?_; first
   | (refine z_stw rfl ?_; first
   | ((refine z_sti 0 rfl rfl ?_; refine o_storeb0 rfl tabOk rfl rfl rfl (by first | rfl | rfl) (by first | rfl | rfl) (by first | rfl | rfl) ?_))
   | ((refine z_sti 5 rfl rfl ?_; refine o_storeb5 rfl tabOk rfl rfl rfl (by first | rfl | rfl) (by first | rfl | rfl) (by first | rfl | rfl) ?_))))
   | refine o_move rfl (by decide) ?_
   | refine o_assign rfl (by decide) ?_
   | refine o_nil rfl (by decide) ?_
   | refine o_extract rfl rfl (by decide) ?_
   | refine o_field0 tabOk rfl rfl rfl rfl rfl (by decide) ?_))
theorem sfill_n (sb b m o : Nat) (M O : Mp) (s p : Int) (h : onM M s p = false) (fr : List Chunk) : Does Try.prog 38 [.pointer (some ⟨sb, 0, none⟩), .int .i64 s, .int .i64 p] (cells sb 89 [.pointer (some ⟨b, 0, none⟩), .map (some o)] :: cells b 78 [.map (some m)] :: mpc m (M) :: mpc o (O) :: fr) (fun _ : Unit => True) (fun _ => .tuple #[.agg #[.int .i64 (fM M s p), .bool (wM M s p)], .bool false]) (fun _ => cells sb 89 [.pointer (some ⟨b, 0, none⟩), .map (some o)] :: cells b 78 [.map (some m)] :: mpc m (M) :: mpc o (O) :: fr) := by
  intro w hw
  have hgt : ∀ fr', Does Try.prog 28 [.pointer (some ⟨sb, 0, none⟩), .int .i64 s, .int .i64 p] (cells sb 89 [.pointer (some ⟨b, 0, none⟩), .map (some o)] :: cells b 78 [.map (some m)] :: mpc m (M) :: mpc o (O) :: fr') (fun _ : Unit => True) (fun _ => .tuple #[.agg #[.int .i64 (fM M s p), .bool (wM M s p)], .bool false]) (fun _ => cells sb 89 [.pointer (some ⟨b, 0, none⟩), .map (some o)] :: cells b 78 [.map (some m)] :: mpc m (M) :: mpc o (O) :: fr') := fun fr' => by
    have := sget_c sb b m o M O s p fr'
    rw [h] at this
    exact this
  refine f_enter Try.func38 rfl Try.ntmps38 rfl hw ?_
  repeat' (first
   | ((refine z_isdst 14 ?_; refine z_sel rfl 5 [1, 2, 3, 4, 0] (by decide) ?_; refine o_calla Try.func28 rfl rfl rfl (hgt _) (by decide) fun _ _ => ?_))
   | ((refine z_isdst 6 ?_; refine o_alloca (e := 36) (vs := [.int .i64 0, .bool false]) rfl (by kernel_rfl) (by decide) fun g6 => ?_))
   | ((refine z_isdst 8 ?_; refine o_alloca (e := 36) (vs := [.int .i64 0, .bool false]) rfl (by kernel_rfl) (by decide) fun g8 => ?_))
   | (refine s_is ?_; first
   | (refine s_isret ?_; first
   | exact f_r2 rfl (res_c tabOk rfl rfl rfl 5 rfl rfl) (res_t rfl) () trivial rfl (fun w h => ((h.sel 6 [1, 2, 3, 4, 0, 5] (by decide)).mask [true, true, true, true, false, false])))
   | (refine s_isw ?_; first
   | refine c_seq ?_
   | refine c_region ?_
   | refine c_skip ?_
   | refine c_ret ?_
   | (refine s_iscond ?_; first
   | (refine c_false rfl (by first | with_reducible rfl | with_reducible assumption | ((with_reducible refine decide_eq_false ?_); first | with_reducible assumption | omega)) ?_))))
   | (refine z_isnil ?_; first
   | refine z_list ?_)
   | (refine z_isop ?_; first
   | (refine z_isload ?_; first
   | (refine z_ldw tabOk rfl rfl ?_; first
   | refine o_loadwm tabOk rfl rfl rfl (by repeat' (first | exact List.mem_cons_self | apply List.mem_cons_of_mem)) (by first | rfl | rfl) (by decide) ?_))
   | (refine z_isstore ?_; first
   | (refine z_stw rfl ?_; first
   | ((refine z_sti 0 rfl rfl ?_; refine o_storeb0 rfl tabOk rfl rfl rfl (by first | rfl | rfl) (by first | rfl | rfl) (by first | rfl | rfl) ?_))
   | ((refine z_sti 5 rfl rfl ?_; refine o_storeb5 rfl tabOk rfl rfl rfl (by first | rfl | rfl) (by first | rfl | rfl) (by first | rfl | rfl) ?_))))
   | refine o_move rfl (by decide) ?_
   | refine o_assign rfl (by decide) ?_
   | refine o_extract rfl rfl (by decide) ?_))
theorem suses_c (sb b m o : Nat) (M O : Mp) (hM : WM M) (f : Int) (fr : List Chunk) : Does Try.prog 30 [.pointer (some ⟨sb, 0, none⟩), .int .i64 f] (cells sb 89 [.pointer (some ⟨b, 0, none⟩), .map (some o)] :: cells b 78 [.map (some m)] :: mpc m (M) :: mpc o (O) :: fr) (fun _ : Unit => True) (fun _ => .int .i64 (uss M f).length) (fun _ => cells sb 89 [.pointer (some ⟨b, 0, none⟩), .map (some o)] :: cells b 78 [.map (some m)] :: mpc m (M) :: mpc o (O) :: fr) := by
  intro w hw
  refine f_enter Try.func30 rfl Try.ntmps30 rfl hw ?_
  repeat' (first
   | ((refine z_isdst 12 ?_; refine z_sel rfl 4 [1, 2, 0, 3] (by decide) ?_; refine o_calla Try.func17 rfl rfl rfl (buses_c b m M hM f _) (by decide) fun x _ => ?_))
   | (refine s_is ?_; first
   | (refine s_isret ?_; first
   | exact f_r1 rfl (res_t rfl) () trivial rfl (fun w h => ((h.sel 5 [3, 1, 2, 4, 0] (by decide)).mask [true, true, true, true, false])))
   | (refine s_isw ?_; first
   | refine c_seq ?_
   | refine c_region ?_
   | refine c_skip ?_
   | refine c_ret ?_
   | (refine s_iscond ?_; first
   | (refine c_false rfl (by first | (simp only [Bool.not_eq_false', decide_eq_true_eq]; omega) | (with_reducible assumption) | (rw [decide_eq_false] <;> (first | omega | with_reducible rfl)) | (rw [decide_eq_true] <;> (first | omega | with_reducible rfl)) | (simp; done) | (simp; omega)) ?_))))
   | (refine z_isnil ?_; first
   | refine z_list ?_)
   | (refine z_isop ?_; first
   | (refine z_isbin ?_; first
   | (refine z_isb .eql ?_; first
   | refine o_peq tabOk rfl rfl (by decide) ?_))
   | (refine z_isload ?_; first
   | (refine z_ld1 tabOk rfl rfl ?_; first
   | refine o_loadm tabOk rfl rfl rfl (by repeat' (first | exact List.mem_cons_self | apply List.mem_cons_of_mem)) (by first | rfl | rfl) (by decide) ?_))
   | (refine z_isbi ?_; first
   | refine o_len tabOk rfl rfl (by decide) ?_)
   | refine o_move rfl (by decide) ?_
   | refine o_assign rfl (by decide) ?_
   | refine o_nil rfl (by decide) ?_
   | refine o_field0 tabOk rfl rfl rfl rfl rfl (by decide) ?_))
theorem spages_c (sb b m o : Nat) (M O : Mp) (hM : WM M) (s : Int) (fr : List Chunk) : Does Try.prog 35 [.pointer (some ⟨sb, 0, none⟩), .int .i64 s] (cells sb 89 [.pointer (some ⟨b, 0, none⟩), .map (some o)] :: cells b 78 [.map (some m)] :: mpc m (M) :: mpc o (O) :: fr) (fun _ : Option Addr × Nat => True) (fun x => .slice x.1 (pgs M s).length x.2) (fun x => own x.1 x.2 3 1 (pgs M s).length (ilS (pgs M s)) :: cells sb 89 [.pointer (some ⟨b, 0, none⟩), .map (some o)] :: cells b 78 [.map (some m)] :: mpc m (M) :: mpc o (O) :: fr) := by
  intro w hw
  refine f_enter Try.func35 rfl Try.ntmps35 rfl hw ?_
  repeat' (first
   | ((refine z_isdst 12 ?_; refine z_sel rfl 4 [1, 2, 0, 3] (by decide) ?_; refine o_calla Try.func15 rfl rfl rfl (bpages_c b m M hM s _) (by decide) fun x _ => ?_))
   | (refine s_is ?_; first
   | (refine s_isret ?_; first
   | exact f_r1 rfl (res_t rfl) (x.1, x.2) trivial rfl (fun w h => ((h.sel 5 [0, 3, 1, 2, 4] (by decide)).mask [true, true, true, true, true])))
   | (refine s_isw ?_; first
   | refine c_seq ?_
   | refine c_region ?_
   | refine c_skip ?_
   | refine c_ret ?_
   | (refine s_iscond ?_; first
   | (refine c_false rfl (by first | (simp only [Bool.not_eq_false', decide_eq_true_eq]; omega) | (with_reducible assumption) | (rw [decide_eq_false] <;> (first | omega | with_reducible rfl)) | (rw [decide_eq_true] <;> (first | omega | with_reducible rfl)) | (simp; done) | (simp; omega)) ?_))))
   | (refine z_isnil ?_; first
   | refine z_list ?_)
   | (refine z_isop ?_; first
   | (refine z_isbin ?_; first
   | (refine z_isb .eql ?_; first
   | refine o_peq tabOk rfl rfl (by decide) ?_))
   | (refine z_isload ?_; first
   | (refine z_ld1 tabOk rfl rfl ?_; first
   | refine o_loadm tabOk rfl rfl rfl (by repeat' (first | exact List.mem_cons_self | apply List.mem_cons_of_mem)) (by first | rfl | rfl) (by decide) ?_))
   | refine o_move rfl (by decide) ?_
   | refine o_assign rfl (by decide) ?_
   | refine o_nil rfl (by decide) ?_
   | refine o_field0 tabOk rfl rfl rfl rfl rfl (by decide) ?_))
end Go.Proofs.Ytnckabgaichkkaa
