/-
Caps: a nil tree; what is taken back; what is derived.
-/
import Derived.Test.YtfegdehgnhomnaaCa3
namespace Go.Proofs.Ytfegdehgnhomnaa
set_option linter.unusedVariables false
set_option linter.unusedSimpArgs false
open Eng
/-- Revoke, cap by cap. -/
def rvS (F : Tq → Nat → Int → Option (Tq × Nat)) (T0 : Tq) (K : List Nat) : Nat → Option (Tq × Nat)
  | 0 => some (T0, 0)
  | j + 1 => match rvS F T0 K j with
    | none => none
    | some (T, n) => match F T (K.getD j 0) (T0 (K.getD j 0)).g with
      | none => none
      | some (T1, m) => some (upd T1 (K.getD j 0) Cq.zero, n + (m + 1))
def rvF : Nat → Tq → Nat → Int → Option (Tq × Nat)
  | 0, _, _, _ => none
  | f + 1, T, a, g => if isN T a g then rvS (rvF f) T (kd' T a 64) (kd' T a 64).length else some (T, 0)
theorem rvS_zero (F : Tq → Nat → Int → Option (Tq × Nat)) (T0 : Tq) (K : List Nat) : rvS F T0 K 0 = some (T0, 0) := rfl
theorem rvS_succ {F : Tq → Nat → Int → Option (Tq × Nat)} {T0 : Tq} {K : List Nat} {j : Nat} {T2 : Tq} {n2 : Nat} (h : rvS F T0 K (j + 1) = some (T2, n2)) : ∃ T n T1 m, rvS F T0 K j = some (T, n) ∧ F T (K.getD j 0) (T0 (K.getD j 0)).g = some (T1, m) ∧ T2 = upd T1 (K.getD j 0) Cq.zero ∧ n2 = n + (m + 1) := by
  simp only [rvS] at h
  cases h1 : rvS F T0 K j with
  | none => rw [h1] at h; cases h
  | some x =>
    obtain ⟨T, n⟩ := x
    rw [h1] at h
    simp only at h
    cases h2 : F T (K.getD j 0) (T0 (K.getD j 0)).g with
    | none => rw [h2] at h; cases h
    | some y =>
      obtain ⟨T1, m⟩ := y
      rw [h2] at h
      simp only [Option.some.injEq, Prod.mk.injEq] at h
      exact ⟨T, n, T1, m, rfl, h2, h.1.symm, h.2.symm⟩
theorem rvS_pre {F : Tq → Nat → Int → Option (Tq × Nat)} {T0 : Tq} {K : List Nat} {j : Nat} : ∀ q T2 n2, rvS F T0 K (j + q) = some (T2, n2) → ∃ T n, rvS F T0 K j = some (T, n) ∧ n ≤ n2
  | 0, T2, n2, h => ⟨T2, n2, h, Nat.le_refl _⟩
  | q + 1, T2, n2, h => by
    obtain ⟨T, n, T1, m, h1, _, _, h4⟩ := rvS_succ (j := j + q) h
    obtain ⟨T', n', h5, h6⟩ := rvS_pre q T n h1
    exact ⟨T', n', h5, by omega⟩
theorem isN_nat {T : Tq} {a : Nat} {g : Int} (h : isN T a g) : a < 64 := by have := h.2.1; omega
attribute [local irreducible] Eng.Hold Eng.Z Eng.S Eng.cells Eng.old Eng.own rc rws tq tqn Cq.cs emp
attribute [local irreducible] kd' kc lv zt ls layS rvS rvF
theorem parent_nil (a g : Int) : Pf Try.prog 13 [.pointer none, cap a g] (.tuple #[cap 0 0, .bool false]) := by
  intro w hw
  refine f_enter Try.func13 rfl Try.ntmps13 rfl hw ?_
  repeat' (first
   | ((refine z_isdst 4 ?_; refine o_alloca (e := 26) (vs := [.int .i64 0, .int .u64 0]) rfl (by kernel_rfl) (by decide) fun g4 => ?_))
   | ((refine z_isdst 11 ?_; refine o_fn rfl Try.func31 rfl rfl rfl (node_nil a g) (by decide) ?_))
   | ((refine z_isdst 3 ?_; refine o_boxa (vs := [.int .i64 a, .int .u64 g]) rfl rfl (by decide) fun gc => ?_))
   | (refine s_is ?_; first
   | (refine s_isret ?_; first
   | exact f_r2 rfl (res_c tabOk rfl rfl rfl 0 rfl rfl) (res_t rfl) () trivial rfl (fun w h => ((h.sel 2 [0, 1] (by decide)).mask [false, false])))
   | (refine s_isw ?_; first
   | refine c_seq ?_
   | refine c_region ?_
   | refine c_ret ?_
   | (refine s_iscond ?_; first
   | (refine c_true rfl (by first | with_reducible rfl | with_reducible assumption | ((with_reducible refine decide_eq_true ?_); first | with_reducible rfl | with_reducible assumption | omega)) ?_)))
   | refine x_then_ret ?_)
   | (refine z_isg0 ?_; first
   | (refine z_skip0 (by decide) rfl rfl (by first | (simp only [Bool.not_eq_true', decide_eq_false_iff_not]; omega) | (with_reducible assumption) | (rw [decide_eq_false] <;> (first | omega | with_reducible rfl)) | (rw [decide_eq_true] <;> (first | omega | with_reducible rfl)) | (simp; done) | (simp; omega)) ?_))
   | (refine z_isnil ?_; first
   | refine z_list ?_)
   | (refine z_isop ?_; first
   | refine o_build0 (t := 26) (v := .agg #[.int .i64 0, .int .u64 0]) (fun _ => by kernel_rfl) (by decide) ?_
   | (refine z_isload ?_; first
   | (refine z_ldw tabOk rfl rfl ?_; first
   | (refine o_loadwm tabOk rfl rfl rfl (by repeat' (first | exact List.mem_cons_self | apply List.mem_cons_of_mem)) (by first | rfl | exact tq_len _ _ | exact cq_len _ | exact tqn_len _ | (simp only [tq_len, cq_len]; done) | rfl) (by decide) ?_)))
   | (refine z_isstore ?_; first
   | (refine z_stw rfl ?_; first
   | ((refine z_sti 0 rfl rfl ?_; refine o_storeb0 rfl tabOk rfl rfl rfl (by first | rfl | exact tq_len _ _ | exact cq_len _ | exact tqn_len _ | (simp only [tq_len, cq_len]; done) | rfl) (by first | rfl | exact tq_one _ _ | exact cq_one _ | rfl) (by first | rfl | exact tq_len _ _ | exact cq_len _ | exact tqn_len _ | (simp only [tq_len, cq_len]; done) | rfl) ?_))))
   | (refine z_ispick ?_; first
   | (refine o_pick1 rfl (by first | (simp only [Bool.not_eq_true', decide_eq_false_iff_not]; omega) | (with_reducible assumption) | (rw [decide_eq_false] <;> (first | omega | with_reducible rfl)) | (rw [decide_eq_true] <;> (first | omega | with_reducible rfl)) | (simp; done) | (simp; omega)) rfl (by decide) ?_))
   | refine o_move rfl (by decide) ?_
   | refine o_assign rfl (by decide) ?_
   | refine o_extract rfl rfl (by decide) ?_
   | refine o_not rfl (by decide) ?_))
theorem revoke_nil (a g : Int) : Pf Try.prog 24 [.pointer none, cap a g] (.tuple #[.int .i64 0, .int .i64 3]) := by
  intro w hw
  refine f_enter Try.func24 rfl Try.ntmps24 rfl hw ?_
  repeat' (first
   | ((refine z_isdst 16 ?_; refine o_fn rfl Try.func31 rfl rfl rfl (node_nil a g) (by decide) ?_))
   | ((refine z_isdst 3 ?_; refine o_boxa (vs := [.int .i64 a, .int .u64 g]) rfl rfl (by decide) fun gc => ?_))
   | (refine s_is ?_; first
   | (refine s_isret ?_; first
   | exact f_r2 rfl (res_t rfl) (res_t rfl) () trivial rfl (fun w h => ((h.sel 1 [0] (by decide)).mask [false])))
   | (refine s_isw ?_; first
   | refine c_seq ?_
   | refine c_region ?_
   | refine c_ret ?_
   | (refine s_iscond ?_; first
   | (refine c_true rfl (by first | (simp only [Bool.not_eq_true', decide_eq_false_iff_not]; omega) | (with_reducible assumption) | (rw [decide_eq_false] <;> (first | omega | with_reducible rfl)) | (rw [decide_eq_true] <;> (first | omega | with_reducible rfl)) | (simp; done) | (simp; omega)) ?_)))
   | refine x_then_ret ?_)
   | (refine z_isnil ?_; first
   | refine z_list ?_)
   | (refine z_isop ?_; first
   | (refine z_isload ?_; first
   | (refine z_ldw tabOk rfl rfl ?_; first
   | (refine o_loadwm tabOk rfl rfl rfl (by repeat' (first | exact List.mem_cons_self | apply List.mem_cons_of_mem)) (by first | rfl | exact tq_len _ _ | exact cq_len _ | exact tqn_len _ | (simp only [tq_len, cq_len]; done) | rfl) (by decide) ?_)))
   | refine o_move rfl (by decide) ?_
   | refine o_assign rfl (by decide) ?_
   | refine o_extract rfl rfl (by decide) ?_
   | refine o_not rfl (by decide) ?_))
theorem drop_nil (a g : Int) : Pf Try.prog 25 [.pointer none, cap a g] (.tuple #[.int .i64 0, .int .i64 3]) := by
  intro w hw
  refine f_enter Try.func25 rfl Try.ntmps25 rfl hw ?_
  repeat' (first
   | ((refine z_isdst 13 ?_; refine o_fn rfl Try.func31 rfl rfl rfl (node_nil a g) (by decide) ?_))
   | ((refine z_isdst 3 ?_; refine o_boxa (vs := [.int .i64 a, .int .u64 g]) rfl rfl (by decide) fun gc => ?_))
   | (refine s_is ?_; first
   | (refine s_isret ?_; first
   | exact f_r2 rfl (res_t rfl) (res_t rfl) () trivial rfl (fun w h => ((h.sel 1 [0] (by decide)).mask [false])))
   | (refine s_isw ?_; first
   | refine c_seq ?_
   | refine c_block ?_
   | refine c_region ?_
   | refine c_ret ?_
   | (refine s_iscond ?_; first
   | (refine c_true rfl (by first | (simp only [Bool.not_eq_true', decide_eq_false_iff_not]; omega) | (with_reducible assumption) | (rw [decide_eq_false] <;> (first | omega | with_reducible rfl)) | (rw [decide_eq_true] <;> (first | omega | with_reducible rfl)) | (simp; done) | (simp; omega)) ?_)))
   | refine x_then_ret ?_
   | refine x_block_ret _ ?_)
   | (refine z_isnil ?_; first
   | refine z_list ?_)
   | (refine z_isop ?_; first
   | (refine z_isload ?_; first
   | (refine z_ldw tabOk rfl rfl ?_; first
   | (refine o_loadwm tabOk rfl rfl rfl (by repeat' (first | exact List.mem_cons_self | apply List.mem_cons_of_mem)) (by first | rfl | exact tq_len _ _ | exact cq_len _ | exact tqn_len _ | (simp only [tq_len, cq_len]; done) | rfl) (by decide) ?_)))
   | refine o_move rfl (by decide) ?_
   | refine o_assign rfl (by decide) ?_
   | refine o_extract rfl rfl (by decide) ?_
   | refine o_not rfl (by decide) ?_))
theorem over_nil (n : Int) : Pf Try.prog 20 [.pointer none, .int .i64 n] (.slice none 0 0) := by
  intro w hw
  refine f_enter Try.func20 rfl Try.ntmps20 rfl hw ?_
  repeat' (first
   | (refine s_is ?_; first
   | (refine s_isret ?_; first
   | exact p_r1 rfl (res_t rfl))
   | (refine s_isw ?_; first
   | refine c_seq ?_
   | refine c_region ?_
   | refine c_ret ?_
   | (refine s_iscond ?_; first
   | (refine c_true rfl (by first | (simp only [Bool.not_eq_true', decide_eq_false_iff_not]; omega) | (with_reducible assumption) | (rw [decide_eq_false] <;> (first | omega | with_reducible rfl)) | (rw [decide_eq_true] <;> (first | omega | with_reducible rfl)) | (simp; done) | (simp; omega)) ?_)))
   | refine x_then_ret ?_)
   | (refine z_isnil ?_; first
   | refine z_list ?_)
   | (refine z_isop ?_; first
   | (refine z_isbin ?_; first
   | (refine z_isb .eql ?_; first
   | refine o_peq tabOk rfl rfl (by decide) ?_))
   | refine o_move rfl (by decide) ?_
   | refine o_assign rfl (by decide) ?_))
theorem cut_nil (a g : Int) (A : Option Addr) (n c : Nat) : Pf Try.prog 22 [.pointer none, cap a g, .agg #[.slice A n c]] (.tuple #[.int .i64 0, .int .i64 3]) := by
  intro w hw
  refine f_enter Try.func22 rfl Try.ntmps22 rfl hw ?_
  repeat' (first
   | ((refine z_isdst 18 ?_; refine o_fn rfl Try.func31 rfl rfl rfl (node_nil a g) (by decide) ?_))
   | ((refine z_isdst 4 ?_; refine o_boxa (vs := [.int .i64 a, .int .u64 g]) rfl rfl (by decide) fun gc => ?_))
   | ((refine z_isdst 5 ?_; refine o_boxa (vs := [.slice A n c]) rfl rfl (by decide) fun gs => ?_))
   | (refine s_is ?_; first
   | (refine s_isret ?_; first
   | exact f_r2 rfl (res_t rfl) (res_t rfl) () trivial rfl (fun w h => ((h.sel 2 [0, 1] (by decide)).mask [false, false])))
   | (refine s_isw ?_; first
   | refine c_seq ?_
   | refine c_region ?_
   | refine c_ret ?_
   | (refine s_iscond ?_; first
   | (refine c_true rfl (by first | (simp only [Bool.not_eq_true', decide_eq_false_iff_not]; omega) | (with_reducible assumption) | (rw [decide_eq_false] <;> (first | omega | with_reducible rfl)) | (rw [decide_eq_true] <;> (first | omega | with_reducible rfl)) | (simp; done) | (simp; omega)) ?_)))
   | refine x_then_ret ?_)
   | (refine z_isnil ?_; first
   | refine z_list ?_)
   | (refine z_isop ?_; first
   | (refine z_isload ?_; first
   | (refine z_ldw tabOk rfl rfl ?_; first
   | (refine o_loadwm tabOk rfl rfl rfl (by repeat' (first | exact List.mem_cons_self | apply List.mem_cons_of_mem)) (by first | rfl | exact tq_len _ _ | exact cq_len _ | exact tqn_len _ | (simp only [tq_len, cq_len]; done) | rfl) (by decide) ?_)))
   | refine o_move rfl (by decide) ?_
   | refine o_assign rfl (by decide) ?_
   | refine o_extract rfl rfl (by decide) ?_
   | refine o_not rfl (by decide) ?_))
theorem derive_nil (a g : Int) (A : Option Addr) (n c : Nat) : Pf Try.prog 23 [.pointer none, cap a g, .agg #[.slice A n c]] (.tuple #[cap 0 0, .int .i64 3]) := by
  intro w hw
  refine f_enter Try.func23 rfl Try.ntmps23 rfl hw ?_
  repeat' (first
   | ((refine z_isdst 6 ?_; refine o_alloca (e := 26) (vs := [.int .i64 0, .int .u64 0]) rfl (by kernel_rfl) (by decide) fun g6 => ?_))
   | ((refine z_isdst 14 ?_; refine o_fn rfl Try.func31 rfl rfl rfl (node_nil a g) (by decide) ?_))
   | ((refine z_isdst 4 ?_; refine o_boxa (vs := [.int .i64 a, .int .u64 g]) rfl rfl (by decide) fun gc => ?_))
   | ((refine z_isdst 5 ?_; refine o_boxa (vs := [.slice A n c]) rfl rfl (by decide) fun gs => ?_))
   | (refine s_is ?_; first
   | (refine s_isret ?_; first
   | exact f_r2 rfl (res_c tabOk rfl rfl rfl 0 rfl rfl) (res_t rfl) () trivial rfl (fun w h => ((h.sel 3 [0, 1, 2] (by decide)).mask [false, false, false])))
   | (refine s_isw ?_; first
   | refine c_seq ?_
   | refine c_block ?_
   | refine c_region ?_
   | refine c_ret ?_
   | (refine s_iscond ?_; first
   | (refine c_true rfl (by first | (simp only [Bool.not_eq_true', decide_eq_false_iff_not]; omega) | (with_reducible assumption) | (rw [decide_eq_false] <;> (first | omega | with_reducible rfl)) | (rw [decide_eq_true] <;> (first | omega | with_reducible rfl)) | (simp; done) | (simp; omega)) ?_)))
   | refine x_then_ret ?_
   | refine x_block_ret _ ?_)
   | (refine z_isnil ?_; first
   | refine z_list ?_)
   | (refine z_isop ?_; first
   | refine o_build0 (t := 26) (v := .agg #[.int .i64 0, .int .u64 0]) (fun _ => by kernel_rfl) (by decide) ?_
   | (refine z_isload ?_; first
   | (refine z_ldw tabOk rfl rfl ?_; first
   | (refine o_loadwm tabOk rfl rfl rfl (by repeat' (first | exact List.mem_cons_self | apply List.mem_cons_of_mem)) (by first | rfl | exact tq_len _ _ | exact cq_len _ | exact tqn_len _ | (simp only [tq_len, cq_len]; done) | rfl) (by decide) ?_)))
   | (refine z_isstore ?_; first
   | (refine z_stw rfl ?_; first
   | ((refine z_sti 0 rfl rfl ?_; refine o_storeb0 rfl tabOk rfl rfl rfl (by first | rfl | exact tq_len _ _ | exact cq_len _ | exact tqn_len _ | (simp only [tq_len, cq_len]; done) | rfl) (by first | rfl | exact tq_one _ _ | exact cq_one _ | rfl) (by first | rfl | exact tq_len _ _ | exact cq_len _ | exact tqn_len _ | (simp only [tq_len, cq_len]; done) | rfl) ?_))))
   | refine o_move rfl (by decide) ?_
   | refine o_assign rfl (by decide) ?_
   | refine o_extract rfl rfl (by decide) ?_
   | refine o_not rfl (by decide) ?_))
set_option maxHeartbeats 4000000 in
theorem revoke_c (l : Int) (b : Nat) : ∀ (f : Nat) (T : Tq) (a : Nat) (g : Int) (T' : Tq) (n : Nat), rvF f T a g = some (T', n) → n ≤ 1000000 → Does Try.prog 24 [.pointer (some ⟨b, 0, none⟩), cap a g] [cells b 73 (tq T l)] (fun _ : Unit => True) (fun _ => .tuple #[.int .i64 n, .int .i64 (if isN T a g then 0 else 3)]) (fun _ => [cells b 73 (tq T' l)])
  | 0, T, a, g, T', n, h, hn => by unfold rvF at h; cases h
  | f + 1, T, a, g, T', n, h, hn => by
    intro w hw
    have hkl := kd_le T a 64
    refine f_enter Try.func24 rfl Try.ntmps24 rfl hw ?_
    by_cases hi : isN T a g
    · rw [if_pos hi]
      unfold rvF at h
      rw [if_pos hi] at h
      repeat' (first
       | ((refine z_isdst 16 ?_; refine o_callr rfl Try.func31 rfl rfl rfl (node_yes T l a g b _ (cells_rds 1 rfl) hi) (by decide) ?_))
       | ((refine z_isdst 23 ?_; refine o_calla Try.func15 rfl rfl rfl (kids_yes T l a g b _ (cells_rds 1 rfl) hi) (by decide) fun x _ => ?_))
       | ((refine z_isdst 3 ?_; refine o_boxa (vs := [.int .i64 a, .int .u64 g]) rfl rfl (by decide) fun gc => ?_))
       | (refine s_is ?_; first
       | (refine s_isw ?_; first
       | (refine s_isloop ?_; first
       | ((refine c_loop (X := Nat × Tq × Nat) (fun y => y.1 ≤ (kd' T a 64).length ∧ rvS (rvF f) T (kd' T a 64) y.1 = some (y.2.1, y.2.2)) (fun y => [(0, .pointer (some ⟨b, 0, none⟩)), (3, .pointer (some ⟨gc, 0, none⟩)), (5, .int .i64 0), (8, .int .i64 y.2.2), (23, .slice x.1 (kd' T a 64).length x.2), (24, .int .i64 (kd' T a 64).length), (25, .int .i64 y.1)]) (fun y => [own x.1 x.2 26 2 (kd' T a 64).length (kc T (kd' T a 64)), cells gc 26 [.int .i64 a, .int .u64 g], cells b 73 (tq y.2.1 l)]) (fun y => (kd' T a 64).length - y.1) (0, T, 0) ⟨Nat.zero_le _, rvS_zero _ _ _⟩ ⟨rfl, rfl, rfl, rfl, rfl, rfl, rfl, trivial⟩ (fun w h => h) (fun y hy => ?_); obtain ⟨k, Tk, nk⟩ := y; obtain ⟨hk, hs⟩ := hy; dsimp only at hk hs ⊢; refine c_own2 0 rfl fun hkc hne => ?_; refine hold ?_)))
       | refine c_seq ?_
       | refine c_block ?_
       | refine c_region ?_
       | refine c_skip ?_
       | (refine s_iscond ?_; first
       | (refine c_false rfl (by first | (simp only [Bool.not_eq_false', decide_eq_true_eq]; omega) | (with_reducible assumption) | (rw [decide_eq_false] <;> (first | omega | with_reducible rfl)) | (rw [decide_eq_true] <;> (first | omega | with_reducible rfl)) | (simp; done) | (simp; omega)) ?_))))
       | (refine z_isnil ?_; first
       | refine z_list ?_)
       | (refine z_isop ?_; first
       | (refine z_isload ?_; first
       | (refine z_ldw tabOk rfl rfl ?_; first
       | (refine o_loadwm tabOk rfl rfl rfl (by repeat' (first | exact List.mem_cons_self | apply List.mem_cons_of_mem)) (by first | rfl | exact tq_len _ _ | exact cq_len _ | exact tqn_len _ | (simp only [tq_len, cq_len]; done) | rfl) (by decide) ?_)))
       | (refine z_isbi ?_; first
       | refine o_len tabOk rfl rfl (by decide) ?_)
       | refine o_move rfl (by decide) ?_
       | refine o_assign rfl (by decide) ?_
       | refine o_extract rfl rfl (by decide) ?_
       | refine o_not rfl (by decide) ?_))
      refine Hold.go ?_
      by_cases hl : k < (kd' T a 64).length
      · have hi6 := kd_lt hl
        have hel := kc_el (T := T) hl
        obtain ⟨T2, n2, h2, hn2⟩ := rvS_pre (j := k + 1) ((kd' T a 64).length - (k + 1)) T' n (by rw [show k + 1 + ((kd' T a 64).length - (k + 1)) = (kd' T a 64).length by omega]; exact h)
        obtain ⟨T3, n3, T1, m, h3, h4, h5, h6⟩ := rvS_succ h2
        rw [hs] at h3
        simp only [Option.some.injEq, Prod.mk.injEq] at h3
        obtain ⟨rfl, rfl⟩ := h3
        generalize hii : (kd' T a 64).getD k 0 = i at *
        have IH := revoke_c l b f Tk i (T i).g T1 m h4 (by omega)
        repeat' (first
         | ((refine z_isdst 27 ?_; refine o_indexsn tabOk (hne (by omega)) rfl rfl rfl rfl (by omega) (by omega) (by decide) ?_))
         | ((refine z_isdst 28 ?_; refine o_loadsw tabOk (own_rds 0 rfl) rfl rfl rfl (es := [.int .i64 i, .int .u64 (T i).g]) rfl (Nat.succ_pos _) hel (by decide) ?_))
         | ((refine z_isdst 32 ?_; refine z_front rfl 3 rfl ?_; refine o_call Try.func24 rfl rfl rfl IH (List.Perm.refl _) (by decide) fun _ _ => ?_))
         | ((refine z_isdst 42 ?_; refine o_build0 (t := 70) (v := .agg #[.int .u64 0, .int .i64 0, .slice none 0 0]) (fun _ => by kernel_rfl) (by decide) ?_))
         | ((refine z_isdst 10 ?_; refine o_alloca (e := 26) (vs := [.int .i64 0, .int .u64 0]) rfl (by kernel_rfl) (by decide) fun g10 => ?_))
         | (refine s_is ?_; first
         | (refine s_isagain ?_; first
         | (exact c_again (k + 1, T2, n2) ⟨by dsimp only; omega, h2⟩ (by dsimp only; omega) ⟨rfl, rfl, rfl, (by dsimp only; exact congrArg some (congrArg (Value.int .i64) (by omega))), rfl, rfl, rfl, trivial⟩ (fun w h => by dsimp only; rw [h5]; exact ((h.sel 4 [2, 3, 0, 1] (by decide)).mask [true, true, true, false]))))
         | (refine s_isw ?_; first
         | refine c_seq ?_
         | refine c_block ?_
         | refine c_region ?_
         | refine c_mixed mixed (by kernel_rfl) ?_
         | refine c_skip ?_
         | (refine s_iscond ?_; first
         | (refine c_true rfl (by first | with_reducible rfl | with_reducible assumption | ((with_reducible refine decide_eq_true ?_); first | with_reducible rfl | with_reducible assumption | omega)) ?_))))
         | (refine z_isnil ?_; first
         | refine z_list ?_
         | refine z_mixed ?_)
         | (refine z_isop ?_; first
         | refine o_nil rfl (by decide) ?_
         | refine o_indexm tabOk rfl rfl rfl rfl (by omega) (by omega) (by decide) ?_
         | (refine z_isbin ?_; first
         | (refine z_isb .add ?_; first
         | refine o_add rfl rfl (by omega) (by omega) (by decide) ?_)
         | (refine z_isb .lss ?_; first
         | refine o_lt rfl rfl (by decide) ?_))
         | (refine z_isload ?_; first
         | (refine z_ld1 tabOk rfl rfl ?_; first
         | refine o_loadm tabOk rfl rfl rfl (by repeat' (first | exact List.mem_cons_self | apply List.mem_cons_of_mem)) (by first | exact tq_g _ _ (by omega) | exact tq_p _ _ (by omega) | exact tq_s _ _ (by omega) | exact tq_last _ _ | exact cq_g _ | exact cq_p _ | exact cq_s _ | rfl | rfl) (by decide) ?_)
         | (refine z_ldw tabOk rfl rfl ?_; first
         | (refine o_loadwm tabOk rfl rfl rfl (by repeat' (first | exact List.mem_cons_self | apply List.mem_cons_of_mem)) (by first | rfl | exact tq_len _ _ | exact cq_len _ | exact tqn_len _ | (simp only [tq_len, cq_len]; done) | rfl) (by decide) ?_)))
         | (refine z_isstore ?_; first
         | (refine o_storew_at rfl 0 tabOk rfl rfl rfl rfl (vs := [.int .u64 0, .int .i64 0, .slice none 0 0]) rfl rfl (by rw [tq_len]; show ((i : Nat) : Int).toNat * 3 + 3 ≤ 193; omega) (tq_zero_at T1 l hi6) ?_)
         | (refine z_stw rfl ?_; first
         | ((refine z_sti 0 rfl rfl ?_; refine o_storeb0 rfl tabOk rfl rfl rfl (by first | rfl | exact tq_len _ _ | exact cq_len _ | exact tqn_len _ | (simp only [tq_len, cq_len]; done) | rfl) (by first | rfl | exact tq_one _ _ | exact cq_one _ | rfl) (by first | rfl | exact tq_len _ _ | exact cq_len _ | exact tqn_len _ | (simp only [tq_len, cq_len]; done) | rfl) ?_))))
         | refine o_move rfl (by decide) ?_
         | refine o_assign rfl (by decide) ?_
         | refine o_nil rfl (by decide) ?_
         | refine o_extract rfl rfl (by decide) ?_
         | refine o_field0 tabOk rfl rfl rfl rfl rfl (by decide) ?_))
      · obtain rfl : k = (kd' T a 64).length := by omega
        rw [h] at hs
        simp only [Option.some.injEq, Prod.mk.injEq] at hs
        obtain ⟨rfl, rfl⟩ := hs
        repeat' (first
         | (refine s_is ?_; first
         | (refine s_isret ?_; first
         | exact f_r2 rfl (res_t rfl) (res_t rfl) () trivial rfl (fun w h => ((h.sel 3 [2, 0, 1] (by decide)).mask [true, false, false])))
         | (refine s_isw ?_; first
         | refine c_seq ?_
         | refine c_region ?_
         | refine c_ret ?_
         | refine c_exit ?_
         | (refine s_iscond ?_; first
         | (refine c_false rfl (by first | with_reducible rfl | with_reducible assumption | ((with_reducible refine decide_eq_false ?_); first | with_reducible assumption | omega)) ?_))))
         | (refine z_isnil ?_; first
         | refine z_list ?_)
         | (refine z_isop ?_; first
         | (refine z_isbin ?_; first
         | (refine z_isb .lss ?_; first
         | refine o_lt rfl rfl (by decide) ?_))
         | refine o_move rfl (by decide) ?_
         | refine o_assign rfl (by decide) ?_))
    · rw [if_neg hi]
      unfold rvF at h
      rw [if_neg hi] at h
      simp only [Option.some.injEq, Prod.mk.injEq] at h
      obtain ⟨rfl, rfl⟩ := h
      repeat' (first
       | ((refine z_isdst 16 ?_; refine o_callr rfl Try.func31 rfl rfl rfl (node_no T l a g b _ (cells_rds 1 rfl) hi) (by decide) ?_))
       | ((refine z_isdst 3 ?_; refine o_boxa (vs := [.int .i64 a, .int .u64 g]) rfl rfl (by decide) fun gc => ?_))
       | (refine s_is ?_; first
       | (refine s_isret ?_; first
       | exact f_r2 rfl (res_t rfl) (res_t rfl) () trivial rfl (fun w h => ((h.sel 2 [1, 0] (by decide)).mask [true, false])))
       | (refine s_isw ?_; first
       | refine c_seq ?_
       | refine c_region ?_
       | refine c_ret ?_
       | (refine s_iscond ?_; first
       | (refine c_true rfl (by first | (simp only [Bool.not_eq_true', decide_eq_false_iff_not]; omega) | (with_reducible assumption) | (rw [decide_eq_false] <;> (first | omega | with_reducible rfl)) | (rw [decide_eq_true] <;> (first | omega | with_reducible rfl)) | (simp; done) | (simp; omega)) ?_)))
       | refine x_then_ret ?_)
       | (refine z_isnil ?_; first
       | refine z_list ?_)
       | (refine z_isop ?_; first
       | (refine z_isload ?_; first
       | (refine z_ldw tabOk rfl rfl ?_; first
       | (refine o_loadwm tabOk rfl rfl rfl (by repeat' (first | exact List.mem_cons_self | apply List.mem_cons_of_mem)) (by first | rfl | exact tq_len _ _ | exact cq_len _ | exact tqn_len _ | (simp only [tq_len, cq_len]; done) | rfl) (by decide) ?_)))
       | refine o_move rfl (by decide) ?_
       | refine o_assign rfl (by decide) ?_
       | refine o_extract rfl rfl (by decide) ?_
       | refine o_not rfl (by decide) ?_))
end Go.Proofs.Ytfegdehgnhomnaa
