/-
Shadow: made, asked, bound, unbound, filled.
-/
import Derived.Test.YtnckabgaichkkaaBx7
namespace Go.Proofs.Ytnckabgaichkkaa
set_option linter.unusedVariables false
set_option linter.unusedSimpArgs false
open Eng
attribute [local irreducible] Eng.Hold Eng.Z Eng.S Eng.cells Eng.old Eng.own Eng.mpc Eng.rgc Eng.onM Eng.fM Eng.wM Eng.upM Eng.delM
attribute [local irreducible] uss pcs pgs ilS dls row xs dmf rmM aM1 aM2 eqB usf
theorem snew_c (fr : List Chunk) : Does Try.prog 25 [] fr (fun _ : Nat × Nat × Nat × Nat => True) (fun x => .pointer (some ⟨x.1, 0, none⟩)) (fun x => cells x.1 89 [.pointer (some ⟨x.2.1, 0, none⟩), .map (some x.2.2.2)] :: cells x.2.1 78 [.map (some x.2.2.1)] :: mpc x.2.2.1 noM :: mpc x.2.2.2 noM :: fr) := by
  intro w hw
  refine f_enter Try.func25 rfl Try.ntmps25 rfl hw ?_
  repeat' (first
   | ((refine z_isdst 1 ?_; refine o_calla Try.func10 rfl rfl rfl (bnew_c _) (by decide) fun x _ => ?_; obtain ⟨b, m⟩ := x; dsimp only))
   | ((refine z_isdst 2 ?_; refine o_makemap (by decide) fun go => ?_))
   | ((refine z_isdst 3 ?_; refine o_build (v := .agg #[.pointer (some ⟨b, 0, none⟩), .map (some go)]) rfl (fun _ => by kernel_rfl) (by decide) ?_))
   | ((refine z_isdst 4 ?_; refine o_boxa (vs := [.pointer (some ⟨b, 0, none⟩), .map (some go)]) rfl rfl (by decide) fun gs => ?_))
   | (refine s_is ?_; first
   | (refine s_isret ?_; first
   | exact f_r1 rfl (res_t rfl) (gs, b, m, go) trivial rfl (fun w h => ((h.sel 4 [0, 2, 3, 1] (by decide)).mask [true, true, true, true])))
   | (refine s_isw ?_; first
   | refine c_seq ?_
   | refine c_region ?_
   | refine c_ret ?_))
   | (refine z_isnil ?_; first
   | refine z_list ?_)
   | (refine z_isop ?_; first
   | refine o_assign rfl (by decide) ?_))
theorem stale_c (sb b m o : Nat) (M O : Mp) (s p : Int) (fr : List Chunk) : Does Try.prog 55 [.pointer (some ⟨sb, 0, none⟩), .int .i64 s, .int .i64 p] (cells sb 89 [.pointer (some ⟨b, 0, none⟩), .map (some o)] :: cells b 78 [.map (some m)] :: mpc m (M) :: mpc o (O) :: fr) (fun _ : Unit => True) (fun _ => .bool (onM O s p)) (fun _ => cells sb 89 [.pointer (some ⟨b, 0, none⟩), .map (some o)] :: cells b 78 [.map (some m)] :: mpc m (M) :: mpc o (delM O s p) :: fr) := by
  intro w hw
  refine f_enter Try.func55 rfl Try.ntmps55 rfl hw ?_
  repeat' (first
   | ((refine z_isdst 8 ?_; refine m_alloca (e := 36) (vs := [.int .i64 0, .bool false]) (by kernel_rfl) ?_))
   | refine z_mono1 (by decide) fun g8 => ?_
   | ((refine z_isdst 7 ?_; refine o_alloca (e := 72) (vs := [.int .i64 0, .int .i64 0]) rfl (by kernel_rfl) (by decide) fun g7 => ?_))
   | ((refine z_isdst 12 ?_; refine o_buildf (t := 72) (zs := [.int .i64 0, .int .i64 0]) (vs := [.int .i64 _, .int .i64 _]) tabOk rfl rfl (by kernel_rfl) rfl ⟨_, _, rfl, rfl, Nat.le_of_ble_eq_true rfl, _, _, rfl, rfl, Nat.le_of_ble_eq_true rfl, rfl⟩ (by decide) ?_))
   | ((refine z_isdst 19 ?_; refine o_lookm mtS rfl rfl 4 rfl (by decide) ?_))
   | (refine s_is ?_; first
   | (refine c_free0 ⟨[], [8]⟩ [0, 1, 2, 3, 4, 5, 6, 7, 8, 9, 10, 11] (id := 2) mixed (by kernel_rfl) ?_)
   | (refine c_monot 5 (id := 3) mixed (by kernel_rfl) rfl ?_)
   | (refine s_isret ?_; first
   | exact f_r1 rfl (res_t rfl) () trivial rfl (fun w h => ((h.sel 6 [2, 3, 4, 5, 0, 1] (by decide)).mask [true, true, true, true, false, false])))
   | (refine s_isw ?_; first
   | refine c_seq ?_
   | refine c_region ?_
   | refine c_ret ?_)
   | refine z_tailm ?_)
   | (refine z_isnil ?_; first
   | refine z_list ?_
   | refine z_mono0 ?_)
   | (refine z_isop ?_; first
   | refine m_inib tabOk (by decide) rfl (by decide) (fun _ => rfl) rfl rfl rfl rfl ?_
   | (refine o_delm mtS rfl rfl 5 rfl ?_)
   | (refine z_isload ?_; first
   | (refine z_ld1 tabOk rfl rfl ?_; first
   | refine o_loadm tabOk rfl rfl rfl (by repeat' (first | exact List.mem_cons_self | apply List.mem_cons_of_mem)) (by first | rfl | rfl) (by decide) ?_)
   | (refine z_ldw tabOk rfl rfl ?_; first
   | refine o_loadwm tabOk rfl rfl rfl (by repeat' (first | exact List.mem_cons_self | apply List.mem_cons_of_mem)) (by first | rfl | rfl) (by decide) ?_))
   | (refine z_isstore ?_; first
   | (refine z_stw rfl ?_; first
   | ((refine z_sti 0 rfl rfl ?_; refine o_storeb0 rfl tabOk rfl rfl rfl (by first | rfl | rfl) (by first | rfl | rfl) (by first | rfl | rfl) ?_))))
   | refine o_move rfl (by decide) ?_
   | refine o_assign rfl (by decide) ?_
   | refine o_nil rfl (by decide) ?_
   | refine o_extract rfl rfl (by decide) ?_
   | refine o_field0 tabOk rfl rfl rfl rfl rfl (by decide) ?_))
theorem sget_c (sb b m o : Nat) (M O : Mp) (s p : Int) (fr : List Chunk) : Does Try.prog 28 [.pointer (some ⟨sb, 0, none⟩), .int .i64 s, .int .i64 p] (cells sb 89 [.pointer (some ⟨b, 0, none⟩), .map (some o)] :: cells b 78 [.map (some m)] :: mpc m (M) :: mpc o (O) :: fr) (fun _ : Unit => True) (fun _ => .tuple #[.agg #[.int .i64 (fM M s p), .bool (wM M s p)], .bool (onM M s p)]) (fun _ => cells sb 89 [.pointer (some ⟨b, 0, none⟩), .map (some o)] :: cells b 78 [.map (some m)] :: mpc m (M) :: mpc o (O) :: fr) := by
  intro w hw
  refine f_enter Try.func28 rfl Try.ntmps28 rfl hw ?_
  repeat' (first
   | ((refine z_isdst 17 ?_; refine z_sel rfl 5 [2, 3, 0, 1, 4] (by decide) ?_; refine o_calla Try.func12 rfl rfl rfl (bget_c b m M s p _) (by decide) fun _ _ => ?_; refine z_sel rfl 5 [2, 0, 1, 3, 4] (by decide) ?_))
   | ((refine z_isdst 6 ?_; refine o_alloca (e := 36) (vs := [.int .i64 0, .bool false]) rfl (by kernel_rfl) (by decide) fun g6 => ?_))
   | (refine s_is ?_; first
   | (refine s_isret ?_; first
   | (exact f_r2 rfl (res_c tabOk rfl rfl rfl 0 rfl rfl) (res_t rfl) () trivial rfl (fun w h => by simp only [fronts, moveF, selF, sel1, nth, List.drop_succ_cons, List.drop_zero, List.eraseIdx_cons_zero, List.eraseIdx_cons_succ, maskL, List.cons_append, List.nil_append, List.append_eq, List.set_cons_zero, List.set_cons_succ] at h; exact ((h.sel 5 [3, 1, 2, 4, 0] (by decide)).mask [true, true, true, true, false]))))
   | (refine s_isw ?_; first
   | refine c_seq ?_
   | refine c_region ?_
   | refine c_skip ?_
   | refine c_ret ?_
   | (refine s_iscond ?_; first
   | (refine c_false rfl (by first | (simp only [Bool.not_eq_false', decide_eq_true_eq]; omega) | (with_reducible assumption) | (rw [decide_eq_false] <;> (first | omega | with_reducible rfl)) | (rw [decide_eq_true] <;> (first | omega | with_reducible rfl)) | (simp; done) | (simp; omega)) ?_))))
   | (refine z_isnil ?_; first
   | refine z_list ?_)
   | (refine z_isop ?_; first
   | (refine z_isbin ?_; first
   | (refine z_isb .eql ?_; first
   | refine o_peq tabOk rfl rfl (by decide) ?_))
   | (refine z_isload ?_; first
   | (refine z_ld1 tabOk rfl rfl ?_; first
   | refine o_loadm tabOk rfl rfl rfl (by repeat' (first | exact List.mem_cons_self | apply List.mem_cons_of_mem)) (by first | rfl | rfl) (by decide) ?_))
   | (refine z_isstore ?_; first
   | (refine z_stw rfl ?_; first
   | ((refine z_sti 0 rfl rfl ?_; refine o_storeb0 rfl tabOk rfl rfl rfl (by first | rfl | rfl) (by first | rfl | rfl) (by first | rfl | rfl) ?_))))
   | refine o_move rfl (by decide) ?_
   | refine o_assign rfl (by decide) ?_
   | refine o_nil rfl (by decide) ?_
   | refine o_extract rfl rfl (by decide) ?_
   | refine o_field0 tabOk rfl rfl rfl rfl rfl (by decide) ?_))
theorem sfilled_c (sb b m o : Nat) (M O : Mp) (s p : Int) (fr : List Chunk) : Does Try.prog 29 [.pointer (some ⟨sb, 0, none⟩), .int .i64 s, .int .i64 p] (cells sb 89 [.pointer (some ⟨b, 0, none⟩), .map (some o)] :: cells b 78 [.map (some m)] :: mpc m (M) :: mpc o (O) :: fr) (fun _ : Unit => True) (fun _ => .bool (onM O s p)) (fun _ => cells sb 89 [.pointer (some ⟨b, 0, none⟩), .map (some o)] :: cells b 78 [.map (some m)] :: mpc m (M) :: mpc o (O) :: fr) := by
  intro w hw
  refine f_enter Try.func29 rfl Try.ntmps29 rfl hw ?_
  repeat' (first
   | ((refine z_isdst 7 ?_; refine o_alloca (e := 36) (vs := [.int .i64 0, .bool false]) rfl (by kernel_rfl) (by decide) fun g7 => ?_))
   | ((refine z_isdst 18 ?_; refine o_buildf (t := 72) (zs := [.int .i64 0, .int .i64 0]) (vs := [.int .i64 _, .int .i64 _]) tabOk rfl rfl (by kernel_rfl) rfl ⟨_, _, rfl, rfl, Nat.le_of_ble_eq_true rfl, _, _, rfl, rfl, Nat.le_of_ble_eq_true rfl, rfl⟩ (by decide) ?_))
   | ((refine z_isdst 19 ?_; refine o_lookm mtS rfl rfl 3 rfl (by decide) ?_))
   | (refine s_is ?_; first
   | (refine s_isret ?_; first
   | exact f_r1 rfl (res_t rfl) () trivial rfl (fun w h => ((h.sel 5 [1, 2, 3, 4, 0] (by decide)).mask [true, true, true, true, false])))
   | (refine s_isw ?_; first
   | refine c_seq ?_
   | refine c_region ?_
   | refine c_skip ?_
   | refine c_ret ?_
   | (refine s_iscond ?_; first
   | (refine c_false rfl (by first | (simp only [Bool.not_eq_false', decide_eq_true_eq]; omega) | (with_reducible assumption) | (rw [decide_eq_false] <;> (first | omega | with_reducible rfl)) | (rw [decide_eq_true] <;> (first | omega | with_reducible rfl)) | (simp; done) | (simp; omega)) ?_))))
   | (refine z_isnil ?_; first
   | refine z_list ?_)
   | (refine z_isop ?_; first
   | (refine z_isbin ?_; first
   | (refine z_isb .eql ?_; first
   | refine o_peq tabOk rfl rfl (by decide) ?_))
   | (refine z_isload ?_; first
   | (refine z_ld1 tabOk rfl rfl ?_; first
   | refine o_loadm tabOk rfl rfl rfl (by repeat' (first | exact List.mem_cons_self | apply List.mem_cons_of_mem)) (by first | rfl | rfl) (by decide) ?_))
   | (refine z_isstore ?_; first
   | (refine z_stw rfl ?_; first
   | ((refine z_sti 0 rfl rfl ?_; refine o_storeb0 rfl tabOk rfl rfl rfl (by first | rfl | rfl) (by first | rfl | rfl) (by first | rfl | rfl) ?_))))
   | refine o_move rfl (by decide) ?_
   | refine o_assign rfl (by decide) ?_
   | refine o_nil rfl (by decide) ?_
   | refine o_extract rfl rfl (by decide) ?_
   | refine o_field0 tabOk rfl rfl rfl rfl rfl (by decide) ?_))
end Go.Proofs.Ytnckabgaichkkaa
