/-
Caps: Revoke and Cut of a cap that is not there.
-/
import Derived.Test.YtfegdehgnhomnaaCa8
namespace Go.Proofs.Ytfegdehgnhomnaa
set_option linter.unusedVariables false
set_option linter.unusedSimpArgs false
open Eng
attribute [local irreducible] Eng.Hold Eng.Z Eng.S Eng.cells Eng.old Eng.own rc rws tq tqn Cq.cs emp
attribute [local irreducible] kd' kc lv zt ls layS rvS rvF lnt al ctS ctF cutX cutC
theorem revoke_no (T : Tq) (l a g : Int) (b : Nat) (h : ¬ isN T a g) : Does Try.prog 24 [.pointer (some ⟨b, 0, none⟩), cap a g] [cells b 73 (tq T l)] (fun _ : Unit => True) (fun _ => .tuple #[.int .i64 0, .int .i64 3]) (fun _ => [cells b 73 (tq T l)]) := by
  intro w hw
  refine f_enter Try.func24 rfl Try.ntmps24 rfl hw ?_
  repeat' (first
   | ((refine z_isdst 16 ?_; refine o_callr rfl Try.func31 rfl rfl rfl (node_no T l a g b _ (cells_rds 1 rfl) h) (by decide) ?_))
   | ((refine z_isdst 3 ?_; refine o_boxa (vs := [.int .i64 a, .int .u64 g]) rfl rfl (by decide) fun gc => ?_))
   | (refine s_is ?_; first
   | (refine s_isret ?_; first
   | exact f_r2 rfl (res_t rfl) (res_t rfl) () trivial rfl (fun w h => ((h.sel 2 [1, 0] (by decide)).mask [true, false])))
   | (refine s_isw ?_; first
   | refine c_seq ?_
   | refine c_region ?_
   | refine c_ret ?_
   | (refine s_iscond ?_; first
   | (refine c_true rfl (by first | (simp only [Bool.not_eq_true', decide_eq_false_iff_not]; omega) | (with_reducible assumption) | (rw [decide_eq_false] <;> (first | omega | with_reducible rfl)) | (rw [decide_eq_true] <;> (first | omega | with_reducible rfl)) | (simp; done) | (simp; omega)) ?_)))
   | refine x_then_ret ?_)
   | (refine z_isnil ?_; first
   | refine z_list ?_)
   | (refine z_isop ?_; first
   | (refine z_isload ?_; first
   | (refine z_ldw tabOk rfl rfl ?_; first
   | (refine o_loadwm tabOk rfl rfl rfl (by repeat' (first | exact List.mem_cons_self | apply List.mem_cons_of_mem)) (by first | rfl | exact tq_len _ _ | exact cq_len _ | exact tqn_len _ | (simp only [tq_len, cq_len]; done) | rfl) (by decide) ?_)))
   | refine o_move rfl (by decide) ?_
   | refine o_assign rfl (by decide) ?_
   | refine o_extract rfl rfl (by decide) ?_
   | refine o_not rfl (by decide) ?_))
theorem cut_no (T : Tq) (l a g : Int) (b : Nat) (S : Nat → Bool) (Sx : Option Addr) (sc : Nat) (fr : List Chunk) (h : ¬ isN T a g) : Does Try.prog 22 [.pointer (some ⟨b, 0, none⟩), cap a g, .agg #[.slice Sx (rws S).length sc]] (cells b 73 (tq T l) :: fr) (fun _ : Unit => True) (fun _ => .tuple #[.int .i64 0, .int .i64 3]) (fun _ => cells b 73 (tq T l) :: fr) := by
  intro w hw
  refine f_enter Try.func22 rfl Try.ntmps22 rfl hw ?_
  repeat' (first
   | ((refine z_isdst 18 ?_; refine o_callr rfl Try.func31 rfl rfl rfl (node_no T l a g b _ (cells_rds 2 rfl) h) (by decide) ?_))
   | ((refine z_isdst 4 ?_; refine o_boxa (vs := [.int .i64 a, .int .u64 g]) rfl rfl (by decide) fun gc => ?_))
   | ((refine z_isdst 5 ?_; refine o_boxa (vs := [.slice Sx (rws S).length sc]) rfl rfl (by decide) fun gs => ?_))
   | (refine s_is ?_; first
   | (refine s_isret ?_; first
   | exact f_r2 rfl (res_t rfl) (res_t rfl) () trivial rfl (fun w h => ((h.sel 3 [2, 0, 1] (by decide)).mask [true, false, false])))
   | (refine s_isw ?_; first
   | refine c_seq ?_
   | refine c_region ?_
   | refine c_ret ?_
   | (refine s_iscond ?_; first
   | (refine c_true rfl (by first | (simp only [Bool.not_eq_true', decide_eq_false_iff_not]; omega) | (with_reducible assumption) | (rw [decide_eq_false] <;> (first | omega | with_reducible rfl)) | (rw [decide_eq_true] <;> (first | omega | with_reducible rfl)) | (simp; done) | (simp; omega)) ?_)))
   | refine x_then_ret ?_)
   | (refine z_isnil ?_; first
   | refine z_list ?_)
   | (refine z_isop ?_; first
   | (refine z_isload ?_; first
   | (refine z_ldw tabOk rfl rfl ?_; first
   | (refine o_loadwm tabOk rfl rfl rfl (by repeat' (first | exact List.mem_cons_self | apply List.mem_cons_of_mem)) (by first | rfl | exact tq_len _ _ | exact cq_len _ | exact tqn_len _ | (simp only [tq_len, cq_len]; done) | rfl) (by decide) ?_)))
   | refine o_move rfl (by decide) ?_
   | refine o_assign rfl (by decide) ?_
   | refine o_extract rfl rfl (by decide) ?_
   | refine o_not rfl (by decide) ?_))
end Go.Proofs.Ytfegdehgnhomnaa
