/-
Caps: the parent; Children and Lent of a cap that is not there; Drop.
-/
import Derived.Test.YtfegdehgnhomnaaCa5
namespace Go.Proofs.Ytfegdehgnhomnaa
set_option linter.unusedVariables false
set_option linter.unusedSimpArgs false
open Eng
attribute [local irreducible] Eng.Hold Eng.Z Eng.S Eng.cells Eng.old Eng.own rc rws tq tqn Cq.cs emp
attribute [local irreducible] kd' kc lv zt ls layS rvS rvF lnt al
theorem parent_no (T : Tq) (l a g : Int) (b : Nat) (fr : List Chunk) (hrd : Rds fr (some ⟨b, 0, none⟩) (tq T l)) (h : ¬ isN T a g) : Does Try.prog 13 [.pointer (some ⟨b, 0, none⟩), cap a g] fr (fun _ : Unit => True) (fun _ => .tuple #[cap 0 0, .bool false]) (fun _ => fr) := by
  intro w hw
  refine f_enter Try.func13 rfl Try.ntmps13 rfl hw ?_
  repeat' (first
   | ((refine z_isdst 11 ?_; refine o_callr rfl Try.func31 rfl rfl rfl (node_no T l a g b _ (Rds.cons _ (Rds.cons _ hrd)) h) (by decide) ?_))
   | ((refine z_isdst 3 ?_; refine o_boxa (vs := [.int .i64 a, .int .u64 g]) rfl rfl (by decide) fun gc => ?_))
   | ((refine z_isdst 4 ?_; refine o_alloca (e := 26) (vs := [.int .i64 0, .int .u64 0]) rfl (by kernel_rfl) (by decide) fun g4 => ?_))
   | (refine s_is ?_; first
   | (refine s_isret ?_; first
   | exact f_r2 rfl (res_c tabOk rfl rfl rfl 0 rfl rfl) (res_t rfl) () trivial rfl (fun w h => ((h.sel 2 [0, 1] (by decide)).mask [false, false])))
   | (refine s_isw ?_; first
   | refine c_seq ?_
   | refine c_region ?_
   | refine c_ret ?_
   | (refine s_iscond ?_; first
   | (refine c_true rfl (by first | with_reducible rfl | with_reducible assumption | ((with_reducible refine decide_eq_true ?_); first | with_reducible rfl | with_reducible assumption | omega)) ?_)))
   | refine x_then_ret ?_)
   | (refine z_isg0 ?_; first
   | (refine z_skip0 (by decide) rfl rfl (by first | (simp only [Bool.not_eq_true', decide_eq_false_iff_not]; omega) | (with_reducible assumption) | (rw [decide_eq_false] <;> (first | omega | with_reducible rfl)) | (rw [decide_eq_true] <;> (first | omega | with_reducible rfl)) | (simp; done) | (simp; omega)) ?_))
   | (refine z_isnil ?_; first
   | refine z_list ?_)
   | (refine z_isop ?_; first
   | refine o_build0 (t := 26) (v := .agg #[.int .i64 0, .int .u64 0]) (fun _ => by kernel_rfl) (by decide) ?_
   | (refine z_isload ?_; first
   | (refine z_ldw tabOk rfl rfl ?_; first
   | (refine o_loadwm tabOk rfl rfl rfl (by repeat' (first | exact List.mem_cons_self | apply List.mem_cons_of_mem)) (by first | rfl | exact tq_len _ _ | exact cq_len _ | exact tqn_len _ | (simp only [tq_len, cq_len]; done) | rfl) (by decide) ?_)))
   | (refine z_isstore ?_; first
   | (refine z_stw rfl ?_; first
   | ((refine z_sti 0 rfl rfl ?_; refine o_storeb0 rfl tabOk rfl rfl rfl (by first | rfl | exact tq_len _ _ | exact cq_len _ | exact tqn_len _ | (simp only [tq_len, cq_len]; done) | rfl) (by first | rfl | exact tq_one _ _ | exact cq_one _ | rfl) (by first | rfl | exact tq_len _ _ | exact cq_len _ | exact tqn_len _ | (simp only [tq_len, cq_len]; done) | rfl) ?_))))
   | (refine z_ispick ?_; first
   | (refine o_pick1 rfl (by first | (simp only [Bool.not_eq_true', decide_eq_false_iff_not]; omega) | (with_reducible assumption) | (rw [decide_eq_false] <;> (first | omega | with_reducible rfl)) | (rw [decide_eq_true] <;> (first | omega | with_reducible rfl)) | (simp; done) | (simp; omega)) rfl (by decide) ?_))
   | refine o_move rfl (by decide) ?_
   | refine o_assign rfl (by decide) ?_
   | refine o_extract rfl rfl (by decide) ?_
   | refine o_not rfl (by decide) ?_))
theorem parent_top (T : Tq) (l a g : Int) (b : Nat) (fr : List Chunk) (hrd0 : Rds fr (some ⟨b, 0, none⟩) (tq T l)) (h : isN T a g) (hp : (T a.toNat).p < 0) : Does Try.prog 13 [.pointer (some ⟨b, 0, none⟩), cap a g] fr (fun _ : Unit => True) (fun _ => .tuple #[cap 0 0, .bool false]) (fun _ => fr) := by
  intro w hw
  have ha : a.toNat < 64 := by have := h.1; have := h.2.1; omega
  have hrd : ∀ c d, Rds (c :: d :: fr) (some ⟨b, 0, none⟩) (tq T l) := fun c d => hrd0.sub (List.sublist_append_right [_, _] _)
  refine f_enter Try.func13 rfl Try.ntmps13 rfl hw ?_
  repeat' (first
   | ((refine z_isdst 11 ?_; refine o_callr rfl Try.func31 rfl rfl rfl (node_yes T l a g b _ (hrd _ _) h) (by decide) ?_))
   | ((refine z_isdst 3 ?_; refine o_boxa (vs := [.int .i64 a, .int .u64 g]) rfl rfl (by decide) fun gc => ?_))
   | ((refine z_isdst 4 ?_; refine o_alloca (e := 26) (vs := [.int .i64 0, .int .u64 0]) rfl (by kernel_rfl) (by decide) fun g4 => ?_))
   | (refine s_is ?_; first
   | (refine s_isret ?_; first
   | exact f_r2 rfl (res_c tabOk rfl rfl rfl 0 rfl rfl) (res_t rfl) () trivial rfl (fun w h => ((h.sel 2 [0, 1] (by decide)).mask [false, false])))
   | (refine s_isw ?_; first
   | refine c_seq ?_
   | refine c_region ?_
   | refine c_ret ?_
   | (refine s_iscond ?_; first
   | (refine c_true rfl (by first | with_reducible rfl | with_reducible assumption | ((with_reducible refine decide_eq_true ?_); first | with_reducible rfl | with_reducible assumption | omega)) ?_)))
   | refine x_then_ret ?_)
   | (refine z_isg0 ?_; first
   | (refine z_want0 rfl rfl (by first | (simp only [Bool.not_eq_false', decide_eq_true_eq]; omega) | (with_reducible assumption) | (rw [decide_eq_false] <;> (first | omega | with_reducible rfl)) | (rw [decide_eq_true] <;> (first | omega | with_reducible rfl)) | (simp; done) | (simp; omega)) ?_))
   | (refine z_isnil ?_; first
   | refine z_list ?_)
   | (refine z_isop ?_; first
   | refine o_nil rfl (by decide) ?_
   | refine o_build0 (t := 26) (v := .agg #[.int .i64 0, .int .u64 0]) (fun _ => by kernel_rfl) (by decide) ?_
   | (refine z_isbin ?_; first
   | (refine z_isb .lss ?_; first
   | refine o_lt rfl rfl (by decide) ?_))
   | (refine z_isload ?_; first
   | refine o_loadr tabOk (hrd _ _) rfl rfl rfl (tq_p _ _ ha) (by decide) ?_
   | (refine z_ldw tabOk rfl rfl ?_; first
   | (refine o_loadwm tabOk rfl rfl rfl (by repeat' (first | exact List.mem_cons_self | apply List.mem_cons_of_mem)) (by first | rfl | exact tq_len _ _ | exact cq_len _ | exact tqn_len _ | (simp only [tq_len, cq_len]; done) | rfl) (by decide) ?_)))
   | (refine z_isstore ?_; first
   | (refine z_stw rfl ?_; first
   | ((refine z_sti 0 rfl rfl ?_; refine o_storeb0 rfl tabOk rfl rfl rfl (by first | rfl | exact tq_len _ _ | exact cq_len _ | exact tqn_len _ | (simp only [tq_len, cq_len]; done) | rfl) (by first | rfl | exact tq_one _ _ | exact cq_one _ | rfl) (by first | rfl | exact tq_len _ _ | exact cq_len _ | exact tqn_len _ | (simp only [tq_len, cq_len]; done) | rfl) ?_))))
   | (refine z_ispick ?_; first
   | (refine o_pick0 rfl (by first | (simp only [Bool.not_eq_false', decide_eq_true_eq]; omega) | (with_reducible assumption) | (rw [decide_eq_false] <;> (first | omega | with_reducible rfl)) | (rw [decide_eq_true] <;> (first | omega | with_reducible rfl)) | (simp; done) | (simp; omega)) rfl (by decide) ?_))
   | refine o_move rfl (by decide) ?_
   | refine o_assign rfl (by decide) ?_
   | refine o_nil rfl (by decide) ?_
   | refine o_extract rfl rfl (by decide) ?_
   | refine o_not rfl (by decide) ?_
   | refine o_field tabOk rfl rfl rfl rfl rfl (by decide) ?_))
theorem parent_yes (T : Tq) (l a g : Int) (b : Nat) (fr : List Chunk) (hrd0 : Rds fr (some ⟨b, 0, none⟩) (tq T l)) (h : isN T a g) (hp : 0 ≤ (T a.toNat).p) (hp1 : (T a.toNat).p < 64) : Does Try.prog 13 [.pointer (some ⟨b, 0, none⟩), cap a g] fr (fun _ : Unit => True) (fun _ => .tuple #[cap (T a.toNat).p (T (T a.toNat).p.toNat).g, .bool true]) (fun _ => fr) := by
  intro w hw
  have ha : a.toNat < 64 := by have := h.1; have := h.2.1; omega
  have hpl : (T a.toNat).p.toNat < 64 := by omega
  have hrd : ∀ c d, Rds (c :: d :: fr) (some ⟨b, 0, none⟩) (tq T l) := fun c d => hrd0.sub (List.sublist_append_right [_, _] _)
  refine f_enter Try.func13 rfl Try.ntmps13 rfl hw ?_
  repeat' (first
   | ((refine z_isdst 11 ?_; refine o_callr rfl Try.func31 rfl rfl rfl (node_yes T l a g b _ (hrd _ _) h) (by decide) ?_))
   | ((refine z_isdst 3 ?_; refine o_boxa (vs := [.int .i64 a, .int .u64 g]) rfl rfl (by decide) fun gc => ?_))
   | ((refine z_isdst 4 ?_; refine o_alloca (e := 26) (vs := [.int .i64 0, .int .u64 0]) rfl (by kernel_rfl) (by decide) fun g4 => ?_))
   | ((refine z_isdst 38 ?_; refine o_buildf (t := 26) (zs := [.int .i64 0, .int .u64 0]) (vs := [.int .i64 (T a.toNat).p, .int .u64 (T (T a.toNat).p.toNat).g]) tabOk rfl rfl (by kernel_rfl) rfl ⟨_, _, rfl, rfl, Nat.le_of_ble_eq_true rfl, _, _, rfl, rfl, Nat.le_of_ble_eq_true rfl, rfl⟩ (by decide) ?_))
   | ((refine z_isdst 20 ?_; refine o_loadr tabOk (hrd _ _) rfl rfl rfl (tq_p _ _ ha) (by decide) ?_))
   | ((refine z_isdst 27 ?_; refine o_loadr tabOk (hrd _ _) rfl rfl rfl (tq_p _ _ ha) (by decide) ?_))
   | ((refine z_isdst 32 ?_; refine o_loadr tabOk (hrd _ _) rfl rfl rfl (tq_p _ _ ha) (by decide) ?_))
   | ((refine z_isdst 37 ?_; refine o_loadr tabOk (hrd _ _) rfl rfl rfl (tq_g _ _ hpl) (by decide) ?_))
   | (refine s_is ?_; first
   | (refine s_isret ?_; first
   | exact f_r2 rfl (res_c tabOk rfl rfl rfl 0 rfl rfl) (res_t rfl) () trivial rfl (fun w h => ((h.sel 2 [0, 1] (by decide)).mask [false, false])))
   | (refine s_isw ?_; first
   | refine c_seq ?_
   | refine c_region ?_
   | refine c_mixed mixed (by kernel_rfl) ?_
   | refine c_skip ?_
   | refine c_ret ?_
   | (refine s_iscond ?_; first
   | (refine c_false rfl (by first | with_reducible rfl | with_reducible assumption | ((with_reducible refine decide_eq_false ?_); first | with_reducible assumption | omega)) ?_))))
   | (refine z_isg0 ?_; first
   | (refine z_want0 rfl rfl (by first | (simp only [Bool.not_eq_false', decide_eq_true_eq]; omega) | (with_reducible assumption) | (rw [decide_eq_false] <;> (first | omega | with_reducible rfl)) | (rw [decide_eq_true] <;> (first | omega | with_reducible rfl)) | (simp; done) | (simp; omega)) ?_))
   | (refine z_isnil ?_; first
   | refine z_list ?_
   | refine z_mixed ?_)
   | (refine z_isop ?_; first
   | refine o_nil rfl (by decide) ?_
   | refine o_indexm tabOk rfl rfl rfl rfl (by omega) (by omega) (by decide) ?_
   | (refine z_isbin ?_; first
   | (refine z_isb .lss ?_; first
   | refine o_lt rfl rfl (by decide) ?_))
   | (refine z_isload ?_; first
   | (refine z_ldw tabOk rfl rfl ?_; first
   | (refine o_loadwm tabOk rfl rfl rfl (by repeat' (first | exact List.mem_cons_self | apply List.mem_cons_of_mem)) (by first | rfl | exact tq_len _ _ | exact cq_len _ | exact tqn_len _ | (simp only [tq_len, cq_len]; done) | rfl) (by decide) ?_)))
   | (refine z_isstore ?_; first
   | (refine z_stw rfl ?_; first
   | ((refine z_sti 0 rfl rfl ?_; refine o_storeb0 rfl tabOk rfl rfl rfl (by first | rfl | exact tq_len _ _ | exact cq_len _ | exact tqn_len _ | (simp only [tq_len, cq_len]; done) | rfl) (by first | rfl | exact tq_one _ _ | exact cq_one _ | rfl) (by first | rfl | exact tq_len _ _ | exact cq_len _ | exact tqn_len _ | (simp only [tq_len, cq_len]; done) | rfl) ?_))))
   | (refine z_ispick ?_; first
   | (refine o_pick0 rfl (by first | (simp only [Bool.not_eq_false', decide_eq_true_eq]; omega) | (with_reducible assumption) | (rw [decide_eq_false] <;> (first | omega | with_reducible rfl)) | (rw [decide_eq_true] <;> (first | omega | with_reducible rfl)) | (simp; done) | (simp; omega)) rfl (by decide) ?_))
   | refine o_move rfl (by decide) ?_
   | refine o_assign rfl (by decide) ?_
   | refine o_nil rfl (by decide) ?_
   | refine o_extract rfl rfl (by decide) ?_
   | refine o_not rfl (by decide) ?_
   | refine o_field0 tabOk rfl rfl rfl rfl rfl (by decide) ?_
   | refine o_field tabOk rfl rfl rfl rfl rfl (by decide) ?_))
theorem kids_no (T : Tq) (l a g : Int) (b : Nat) (fr : List Chunk) (hrd : Rds fr (some ⟨b, 0, none⟩) (tq T l)) (h : ¬ isN T a g) : Does Try.prog 15 [.pointer (some ⟨b, 0, none⟩), cap a g] fr (fun _ : Unit => True) (fun x => .slice none 0 0) (fun _ => fr) := by
  intro w hw
  refine f_enter Try.func15 rfl Try.ntmps15 rfl hw ?_
  repeat' (first
   | ((refine z_isdst 13 ?_; refine o_callr rfl Try.func31 rfl rfl rfl (node_no T l a g b _ (Rds.cons _ hrd) h) (by decide) ?_))
   | ((refine z_isdst 3 ?_; refine o_boxa (vs := [.int .i64 a, .int .u64 g]) rfl rfl (by decide) fun gc => ?_))
   | (refine s_is ?_; first
   | (refine s_isret ?_; first
   | exact f_r1 rfl (res_t rfl) () trivial rfl (fun w h => ((h.sel 1 [0] (by decide)).mask [false])))
   | (refine s_isw ?_; first
   | refine c_seq ?_
   | refine c_region ?_
   | refine c_ret ?_
   | (refine s_iscond ?_; first
   | (refine c_true rfl (by first | (simp only [Bool.not_eq_true', decide_eq_false_iff_not]; omega) | (with_reducible assumption) | (rw [decide_eq_false] <;> (first | omega | with_reducible rfl)) | (rw [decide_eq_true] <;> (first | omega | with_reducible rfl)) | (simp; done) | (simp; omega)) ?_)))
   | refine x_then_ret ?_)
   | (refine z_isnil ?_; first
   | refine z_list ?_)
   | (refine z_isop ?_; first
   | (refine z_isload ?_; first
   | (refine z_ldw tabOk rfl rfl ?_; first
   | (refine o_loadwm tabOk rfl rfl rfl (by repeat' (first | exact List.mem_cons_self | apply List.mem_cons_of_mem)) (by first | rfl | exact tq_len _ _ | exact cq_len _ | exact tqn_len _ | (simp only [tq_len, cq_len]; done) | rfl) (by decide) ?_)))
   | refine o_move rfl (by decide) ?_
   | refine o_assign rfl (by decide) ?_
   | refine o_extract rfl rfl (by decide) ?_
   | refine o_not rfl (by decide) ?_))
theorem lent_no (T : Tq) (l a g : Int) (b : Nat) (fr : List Chunk) (hrd : Rds fr (some ⟨b, 0, none⟩) (tq T l)) (h : ¬ isN T a g) : Does Try.prog 17 [.pointer (some ⟨b, 0, none⟩), cap a g] fr (fun _ : Unit => True) (fun x => .agg #[.slice none 0 0]) (fun _ => fr) := by
  intro w hw
  refine f_enter Try.func17 rfl Try.ntmps17 rfl hw ?_
  repeat' (first
   | ((refine z_isdst 10 ?_; refine o_callr rfl Try.func15 rfl rfl rfl (kids_no T l a g b _ (hrd.sub (List.sublist_append_right [_, _, _] _)) h) (by decide) ?_))
   | ((refine z_isdst 3 ?_; refine o_boxa (vs := [.int .i64 a, .int .u64 g]) rfl rfl (by decide) fun gc => ?_))
   | ((refine z_isdst 4 ?_; refine o_alloca (e := 31) (vs := [.slice none 0 0]) rfl (by kernel_rfl) (by decide) fun g4 => ?_))
   | ((refine z_isdst 5 ?_; refine o_alloca (e := 31) (vs := [.slice none 0 0]) rfl (by kernel_rfl) (by decide) fun g5 => ?_))
   | (refine s_is ?_; first
   | (refine s_isret ?_; first
   | exact f_r1 rfl (res_c tabOk rfl rfl rfl 1 rfl rfl) () trivial rfl (fun w h => ((h.sel 2 [0, 1] (by decide)).mask [false, false])))
   | (refine s_isw ?_; first
   | (refine s_isloop ?_; first
   | (refine c_loop (X := Unit) (fun _ => True) (fun _ => [(4, .pointer (some ⟨g4, 0, none⟩)), (5, .pointer (some ⟨g5, 0, none⟩)), (11, .int .i64 0), (12, .int .i64 0)]) (fun _ => cells g5 31 [.slice none 0 0] :: cells g4 31 [.slice none 0 0] :: fr) (fun k => 0) () trivial ⟨rfl, rfl, rfl, rfl, trivial⟩ (fun w h => ((h.sel 3 [0, 1, 2] (by decide)).mask [true, true, false])) (fun k hk => ?_)))
   | refine c_seq ?_
   | refine c_block ?_
   | refine c_region ?_
   | refine c_ret ?_
   | refine c_exit ?_
   | (refine s_iscond ?_; first
   | (refine c_false rfl (by first | with_reducible rfl | with_reducible assumption | ((with_reducible refine decide_eq_false ?_); first | with_reducible assumption | omega)) ?_))))
   | (refine z_isnil ?_; first
   | refine z_list ?_)
   | (refine z_isop ?_; first
   | (refine z_isbin ?_; first
   | (refine z_isb .lss ?_; first
   | refine o_lt rfl rfl (by decide) ?_))
   | (refine z_isload ?_; first
   | (refine z_ldw tabOk rfl rfl ?_; first
   | (refine o_loadwm tabOk rfl rfl rfl (by repeat' (first | exact List.mem_cons_self | apply List.mem_cons_of_mem)) (by first | rfl | exact tq_len _ _ | exact cq_len _ | exact tqn_len _ | (simp only [tq_len, cq_len]; done) | rfl) (by decide) ?_)))
   | (refine z_isstore ?_; first
   | (refine z_stw rfl ?_; first
   | ((refine z_sti 1 rfl rfl ?_; refine o_storeb1 rfl tabOk rfl rfl rfl (by first | rfl | exact tq_len _ _ | exact cq_len _ | exact tqn_len _ | (simp only [tq_len, cq_len]; done) | rfl) (by first | rfl | exact tq_one _ _ | exact cq_one _ | rfl) (by first | rfl | exact tq_len _ _ | exact cq_len _ | exact tqn_len _ | (simp only [tq_len, cq_len]; done) | rfl) ?_))))
   | (refine z_isbi ?_; first
   | refine o_len tabOk rfl rfl (by decide) ?_)
   | refine o_move rfl (by decide) ?_))
theorem drop_no (T : Tq) (l a g : Int) (b : Nat) (h : ¬ isN T a g) : Does Try.prog 25 [.pointer (some ⟨b, 0, none⟩), cap a g] [cells b 73 (tq T l)] (fun _ : Unit => True) (fun _ => .tuple #[.int .i64 0, .int .i64 3]) (fun _ => [cells b 73 (tq T l)]) := by
  intro w hw
  refine f_enter Try.func25 rfl Try.ntmps25 rfl hw ?_
  repeat' (first
   | ((refine z_isdst 13 ?_; refine o_callr rfl Try.func31 rfl rfl rfl (node_no T l a g b _ (cells_rds 1 rfl) h) (by decide) ?_))
   | ((refine z_isdst 3 ?_; refine o_boxa (vs := [.int .i64 a, .int .u64 g]) rfl rfl (by decide) fun gc => ?_))
   | (refine s_is ?_; first
   | (refine s_isret ?_; first
   | exact f_r2 rfl (res_t rfl) (res_t rfl) () trivial rfl (fun w h => ((h.sel 2 [1, 0] (by decide)).mask [true, false])))
   | (refine s_isw ?_; first
   | refine c_seq ?_
   | refine c_block ?_
   | refine c_region ?_
   | refine c_ret ?_
   | (refine s_iscond ?_; first
   | (refine c_true rfl (by first | (simp only [Bool.not_eq_true', decide_eq_false_iff_not]; omega) | (with_reducible assumption) | (rw [decide_eq_false] <;> (first | omega | with_reducible rfl)) | (rw [decide_eq_true] <;> (first | omega | with_reducible rfl)) | (simp; done) | (simp; omega)) ?_)))
   | refine x_then_ret ?_
   | refine x_block_ret _ ?_)
   | (refine z_isnil ?_; first
   | refine z_list ?_)
   | (refine z_isop ?_; first
   | (refine z_isload ?_; first
   | (refine z_ldw tabOk rfl rfl ?_; first
   | (refine o_loadwm tabOk rfl rfl rfl (by repeat' (first | exact List.mem_cons_self | apply List.mem_cons_of_mem)) (by first | rfl | exact tq_len _ _ | exact cq_len _ | exact tqn_len _ | (simp only [tq_len, cq_len]; done) | rfl) (by decide) ?_)))
   | refine o_move rfl (by decide) ?_
   | refine o_assign rfl (by decide) ?_
   | refine o_extract rfl rfl (by decide) ?_
   | refine o_not rfl (by decide) ?_))
theorem drop_top (T : Tq) (l a g : Int) (b : Nat) (h : isN T a g) (hp : (T a.toNat).p < 0) : Does Try.prog 25 [.pointer (some ⟨b, 0, none⟩), cap a g] [cells b 73 (tq T l)] (fun _ : Unit => True) (fun _ => .tuple #[.int .i64 0, .int .i64 2]) (fun _ => [cells b 73 (tq T l)]) := by
  intro w hw
  have ha : a.toNat < 64 := by have := h.1; have := h.2.1; omega
  refine f_enter Try.func25 rfl Try.ntmps25 rfl hw ?_
  repeat' (first
   | ((refine z_isdst 13 ?_; refine o_callr rfl Try.func31 rfl rfl rfl (node_yes T l a g b _ (cells_rds 1 rfl) h) (by decide) ?_))
   | ((refine z_isdst 23 ?_; refine o_loadr tabOk (cells_rds 1 rfl) rfl rfl rfl (tq_p _ _ ha) (by decide) ?_))
   | ((refine z_isdst 3 ?_; refine o_boxa (vs := [.int .i64 a, .int .u64 g]) rfl rfl (by decide) fun gc => ?_))
   | (refine s_is ?_; first
   | (refine s_isret ?_; first
   | exact f_r2 rfl (res_t rfl) (res_t rfl) () trivial rfl (fun w h => ((h.sel 2 [1, 0] (by decide)).mask [true, false])))
   | (refine s_isw ?_; first
   | refine c_seq ?_
   | refine c_block ?_
   | refine c_region ?_
   | refine c_ret ?_
   | (refine s_iscond ?_; first
   | (refine c_true rfl (by first | with_reducible rfl | with_reducible assumption | ((with_reducible refine decide_eq_true ?_); first | with_reducible rfl | with_reducible assumption | omega)) ?_)
   | (refine c_false rfl (by first | (simp only [Bool.not_eq_false', decide_eq_true_eq]; omega) | (with_reducible assumption) | (rw [decide_eq_false] <;> (first | omega | with_reducible rfl)) | (rw [decide_eq_true] <;> (first | omega | with_reducible rfl)) | (simp; done) | (simp; omega)) ?_)))
   | refine x_then_ret ?_
   | refine x_block_ret _ ?_)
   | (refine z_isnil ?_; first
   | refine z_list ?_)
   | (refine z_isop ?_; first
   | refine o_nil rfl (by decide) ?_
   | (refine z_isbin ?_; first
   | (refine z_isb .lss ?_; first
   | refine o_lt rfl rfl (by decide) ?_))
   | (refine z_isload ?_; first
   | (refine z_ldw tabOk rfl rfl ?_; first
   | (refine o_loadwm tabOk rfl rfl rfl (by repeat' (first | exact List.mem_cons_self | apply List.mem_cons_of_mem)) (by first | rfl | exact tq_len _ _ | exact cq_len _ | exact tqn_len _ | (simp only [tq_len, cq_len]; done) | rfl) (by decide) ?_)))
   | refine o_move rfl (by decide) ?_
   | refine o_assign rfl (by decide) ?_
   | refine o_nil rfl (by decide) ?_
   | refine o_extract rfl rfl (by decide) ?_
   | refine o_not rfl (by decide) ?_
   | refine o_field tabOk rfl rfl rfl rfl rfl (by decide) ?_))
theorem drop_ok (T T' : Tq) (l g : Int) (a n b : Nat) (h : isN T a g) (hp : 0 ≤ (T a).p) (hn : n ≤ 1000000) (hr : Does Try.prog 24 [.pointer (some ⟨b, 0, none⟩), cap a g] [cells b 73 (tq T l)] (fun _ : Unit => True) (fun _ => .tuple #[.int .i64 n, .int .i64 0]) (fun _ => [cells b 73 (tq T' l)])) : Does Try.prog 25 [.pointer (some ⟨b, 0, none⟩), cap a g] [cells b 73 (tq T l)] (fun _ : Unit => True) (fun _ => .tuple #[.int .i64 (n + 1 : Nat), .int .i64 0]) (fun _ => [cells b 73 (tq (upd T' a Cq.zero) l)]) := by
  intro w hw
  have ha : a < 64 := isN_nat h
  refine f_enter Try.func25 rfl Try.ntmps25 rfl hw ?_
  repeat' (first
   | ((refine z_isdst 3 ?_; refine o_boxa (vs := [.int .i64 (a : Nat), .int .u64 g]) rfl rfl (by decide) fun gc => ?_))
   | ((refine z_isdst 13 ?_; refine o_callr rfl Try.func31 rfl rfl rfl (node_yes T l a g b _ (cells_rds 1 rfl) h) (by decide) ?_))
   | ((refine z_isdst 23 ?_; refine o_loadr tabOk (cells_rds 1 rfl) rfl rfl rfl (tq_p _ _ (show ((a : Nat) : Int).toNat < 64 from ha)) (by decide) ?_))
   | ((refine z_isdst 28 ?_; refine z_front rfl 1 rfl ?_; refine o_call Try.func24 rfl rfl rfl hr (List.Perm.refl _) (by decide) fun _ _ => ?_))
   | ((refine z_isdst 34 ?_; refine o_build0 (t := 70) (v := .agg #[.int .u64 0, .int .i64 0, .slice none 0 0]) (fun _ => by kernel_rfl) (by decide) ?_))
   | (refine s_is ?_; first
   | (refine s_isret ?_; first
   | exact f_r2 rfl (res_t rfl) (res_t rfl) () trivial rfl (fun w h => ((h.sel 2 [0, 1] (by decide)).mask [true, false])))
   | (refine s_isw ?_; first
   | refine c_seq ?_
   | refine c_block ?_
   | refine c_region ?_
   | refine c_mixed mixed (by kernel_rfl) ?_
   | refine c_skip ?_
   | refine c_ret ?_
   | (refine s_iscond ?_; first
   | (refine c_false rfl (by first | (simp only [Bool.not_eq_false', decide_eq_true_eq]; omega) | (with_reducible assumption) | (rw [decide_eq_false] <;> (first | omega | with_reducible rfl)) | (rw [decide_eq_true] <;> (first | omega | with_reducible rfl)) | (simp; done) | (simp; omega)) ?_))))
   | (refine z_isnil ?_; first
   | refine z_list ?_
   | refine z_mixed ?_)
   | (refine z_isop ?_; first
   | refine o_nil rfl (by decide) ?_
   | refine o_indexm tabOk rfl rfl rfl rfl (by omega) (by omega) (by decide) ?_
   | (refine z_isbin ?_; first
   | (refine z_isb .add ?_; first
   | refine o_add rfl rfl (by omega) (by omega) (by decide) ?_)
   | (refine z_isb .lss ?_; first
   | refine o_lt rfl rfl (by decide) ?_))
   | (refine z_isload ?_; first
   | (refine z_ld1 tabOk rfl rfl ?_; first
   | refine o_loadm tabOk rfl rfl rfl (by repeat' (first | exact List.mem_cons_self | apply List.mem_cons_of_mem)) (by first | exact tq_g _ _ (by omega) | exact tq_p _ _ (by omega) | exact tq_s _ _ (by omega) | exact tq_last _ _ | exact cq_g _ | exact cq_p _ | exact cq_s _ | rfl | rfl) (by decide) ?_)
   | (refine z_ldw tabOk rfl rfl ?_; first
   | (refine o_loadwm tabOk rfl rfl rfl (by repeat' (first | exact List.mem_cons_self | apply List.mem_cons_of_mem)) (by first | rfl | exact tq_len _ _ | exact cq_len _ | exact tqn_len _ | (simp only [tq_len, cq_len]; done) | rfl) (by decide) ?_)))
   | (refine z_isstore ?_; first
   | (refine o_storew_at rfl 0 tabOk rfl rfl rfl rfl (vs := [.int .u64 0, .int .i64 0, .slice none 0 0]) rfl rfl (by rw [tq_len]; show ((a : Nat) : Int).toNat * 3 + 3 ≤ 193; omega) (tq_zero_at T' l ha) ?_))
   | refine o_move rfl (by decide) ?_
   | refine o_assign rfl (by decide) ?_
   | refine o_nil rfl (by decide) ?_
   | refine o_extract rfl rfl (by decide) ?_
   | refine o_not rfl (by decide) ?_
   | refine o_field0 tabOk rfl rfl rfl rfl rfl (by decide) ?_
   | refine o_field tabOk rfl rfl rfl rfl rfl (by decide) ?_))
end Go.Proofs.Ytfegdehgnhomnaa
