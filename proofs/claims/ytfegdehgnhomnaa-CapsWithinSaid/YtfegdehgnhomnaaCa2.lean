/-
Caps: a cap's numbers; those that are derived from one; how many caps.
-/
import Derived.Test.YtfegdehgnhomnaaCa1
namespace Go.Proofs.Ytfegdehgnhomnaa
set_option linter.unusedVariables false
set_option linter.unusedSimpArgs false
open Eng
theorem tq_set1 (T : Tq) (l : Int) {i : Nat} (h : i < 64) : ∀ (j : Nat) u, [Value.slice (T i).A (rws (T i).s).length (T i).c][j]? = some u → (tq T l)[i * 3 + 2 + j]? = some u := fun j u hu => by
  cases j with
  | zero => rw [← hu]; exact tq_s T l h
  | succ j => simp at hu
/-- Those of the first n places that are derived from one. -/
def kd' (T : Tq) (a : Int) : Nat → List Nat
  | 0 => []
  | n + 1 => if (T n).g ≠ 0 ∧ (T n).p = a then kd' T a n ++ [n] else kd' T a n
theorem kd_zero (T : Tq) (a : Int) : kd' T a 0 = [] := rfl
theorem kd_yes {T : Tq} {a : Int} {n : Nat} (h : (T n).g ≠ 0 ∧ (T n).p = a) : kd' T a (n + 1) = kd' T a n ++ [n] := by simp only [kd']; rw [if_pos h]
theorem kd_no {T : Tq} {a : Int} {n : Nat} (h : ¬ ((T n).g ≠ 0 ∧ (T n).p = a)) : kd' T a (n + 1) = kd' T a n := by simp only [kd']; rw [if_neg h]
theorem kd_le (T : Tq) (a : Int) : ∀ n, (kd' T a n).length ≤ n
  | 0 => Nat.le_refl _
  | n + 1 => by
    have := kd_le T a n
    simp only [kd']
    split
    · simp; omega
    · omega
theorem kd_mem {T : Tq} {a : Int} {i : Nat} : ∀ n, i ∈ kd' T a n ↔ i < n ∧ (T i).g ≠ 0 ∧ (T i).p = a
  | 0 => by simp [kd']
  | n + 1 => by
    by_cases h : (T n).g ≠ 0 ∧ (T n).p = a
    · rw [kd_yes h, List.mem_append, kd_mem n, List.mem_singleton]
      constructor
      · rintro (⟨a, b⟩ | rfl)
        · exact ⟨by omega, b⟩
        · exact ⟨by omega, h⟩
      · rintro ⟨a, b⟩
        by_cases e : i = n
        · exact .inr e
        · exact .inl ⟨by omega, b⟩
    · rw [kd_no h, kd_mem n]
      constructor
      · rintro ⟨a, b⟩; exact ⟨by omega, b⟩
      · rintro ⟨a, b⟩
        have : i ≠ n := fun e => h (e ▸ b)
        exact ⟨by omega, b⟩
def kc1 (T : Tq) (i : Nat) : List Value := [.int .i64 i, .int .u64 (T i).g]
def kc (T : Tq) (K : List Nat) : List Value := K.flatMap (kc1 T)
theorem kc1_len (T : Tq) (i : Nat) : (kc1 T i).length = 2 := rfl
theorem kc_nil (T : Tq) : kc T [] = [] := rfl
theorem kc_add (T : Tq) (K : List Nat) (i : Nat) : kc T (K ++ [i]) = kc T K ++ [.int .i64 i, .int .u64 (T i).g] := by simp [kc, kc1]
theorem kc_len (T : Tq) (K : List Nat) : (kc T K).length = K.length * 2 := flat_len (kc1 T) 2 (kc1_len T) K
/-- How many of the first n places have a cap. -/
def lv (T : Tq) : Nat → Nat
  | 0 => 0
  | n + 1 => if (T n).g ≠ 0 then lv T n + 1 else lv T n
theorem lv_zero (T : Tq) : lv T 0 = 0 := rfl
theorem lv_yes {T : Tq} {n : Nat} (h : (T n).g ≠ 0) : lv T (n + 1) = lv T n + 1 := by simp only [lv]; rw [if_pos h]
theorem lv_no {T : Tq} {n : Nat} (h : (T n).g = 0) : lv T (n + 1) = lv T n := by simp only [lv]; rw [if_neg (fun e => e h)]
theorem lv_le (T : Tq) : ∀ n, lv T n ≤ n
  | 0 => Nat.le_refl _
  | n + 1 => by
    have := lv_le T n
    simp only [lv]
    split <;> omega
attribute [local irreducible] Eng.Hold Eng.Z Eng.S Eng.cells Eng.old Eng.own rc rws tq tqn Cq.cs emp
theorem set_yes (T : Tq) (l a g : Int) (b : Nat) (fr : List Chunk) (hrd : Rds fr (some ⟨b, 0, none⟩) (tq T l)) (h : isN T a g) : Does Try.prog 12 [.pointer (some ⟨b, 0, none⟩), cap a g] fr (fun _ : Unit => True) (fun _ => .tuple #[.agg #[.slice (T a.toNat).A (rws (T a.toNat).s).length (T a.toNat).c], .bool true]) (fun _ => fr) := by
  intro w hw
  have h' := h
  obtain ⟨h0, h1, h2, h3⟩ := h'
  refine f_enter Try.func12 rfl Try.ntmps12 rfl hw ?_
  repeat' (first
   | ((refine z_isdst 11 ?_; refine o_callr rfl Try.func31 rfl rfl rfl (node_yes T l a g b _ (Rds.cons _ (Rds.cons _ hrd)) h) (by decide) ?_))
   | ((refine z_isdst 20 ?_; refine o_loadrw tabOk (Rds.cons _ (Rds.cons _ hrd)) rfl rfl rfl (es := [.slice (T a.toNat).A (rws (T a.toNat).s).length (T a.toNat).c]) rfl (Nat.succ_pos _) (tq_set1 T l (by omega)) (by decide) ?_))
   | ((refine z_isdst 3 ?_; refine o_boxa (vs := [.int .i64 a, .int .u64 g]) rfl rfl (by decide) fun gc => ?_))
   | ((refine z_isdst 4 ?_; refine o_alloca (e := 31) (vs := [.slice none 0 0]) rfl (by kernel_rfl) (by decide) fun g4 => ?_))
   | (refine s_is ?_; first
   | (refine s_isret ?_; first
   | exact f_r2 rfl (res_c tabOk rfl rfl rfl 0 rfl rfl) (res_t rfl) () trivial rfl (fun w h => ((h.sel 2 [0, 1] (by decide)).mask [false, false])))
   | (refine s_isw ?_; first
   | refine c_seq ?_
   | refine c_region ?_
   | refine c_skip ?_
   | refine c_ret ?_
   | (refine s_iscond ?_; first
   | (refine c_false rfl (by first | (simp only [Bool.not_eq_false', decide_eq_true_eq]; omega) | (with_reducible assumption) | (rw [decide_eq_false] <;> (first | omega | with_reducible rfl)) | (rw [decide_eq_true] <;> (first | omega | with_reducible rfl)) | (simp; done) | (simp; omega)) ?_))))
   | (refine z_isnil ?_; first
   | refine z_list ?_)
   | (refine z_isop ?_; first
   | refine o_nil rfl (by decide) ?_
   | (refine z_isload ?_; first
   | (refine z_ldw tabOk rfl rfl ?_; first
   | (refine o_loadwm tabOk rfl rfl rfl (by repeat' (first | exact List.mem_cons_self | apply List.mem_cons_of_mem)) (by first | rfl | exact tq_len _ _ | exact cq_len _ | exact tqn_len _ | (simp only [tq_len, cq_len]; done) | rfl) (by decide) ?_)))
   | (refine z_isstore ?_; first
   | (refine z_stw rfl ?_; first
   | ((refine z_sti 0 rfl rfl ?_; refine o_storeb0 rfl tabOk rfl rfl rfl (by first | rfl | exact tq_len _ _ | exact cq_len _ | exact tqn_len _ | (simp only [tq_len, cq_len]; done) | rfl) (by first | rfl | exact tq_one _ _ | exact cq_one _ | rfl) (by first | rfl | exact tq_len _ _ | exact cq_len _ | exact tqn_len _ | (simp only [tq_len, cq_len]; done) | rfl) ?_))))
   | refine o_move rfl (by decide) ?_
   | refine o_assign rfl (by decide) ?_
   | refine o_nil rfl (by decide) ?_
   | refine o_extract rfl rfl (by decide) ?_
   | refine o_not rfl (by decide) ?_
   | refine o_field tabOk rfl rfl rfl rfl rfl (by decide) ?_))
theorem set_no (T : Tq) (l a g : Int) (b : Nat) (fr : List Chunk) (hrd : Rds fr (some ⟨b, 0, none⟩) (tq T l)) (h : ¬ isN T a g) : Does Try.prog 12 [.pointer (some ⟨b, 0, none⟩), cap a g] fr (fun _ : Unit => True) (fun _ => .tuple #[.agg #[.slice none 0 0], .bool false]) (fun _ => fr) := by
  intro w hw
  refine f_enter Try.func12 rfl Try.ntmps12 rfl hw ?_
  repeat' (first
   | ((refine z_isdst 11 ?_; refine o_callr rfl Try.func31 rfl rfl rfl (node_no T l a g b _ (Rds.cons _ (Rds.cons _ hrd)) h) (by decide) ?_))
   | ((refine z_isdst 3 ?_; refine o_boxa (vs := [.int .i64 a, .int .u64 g]) rfl rfl (by decide) fun gc => ?_))
   | ((refine z_isdst 4 ?_; refine o_alloca (e := 31) (vs := [.slice none 0 0]) rfl (by kernel_rfl) (by decide) fun g4 => ?_))
   | (refine s_is ?_; first
   | (refine s_isret ?_; first
   | exact f_r2 rfl (res_c tabOk rfl rfl rfl 0 rfl rfl) (res_t rfl) () trivial rfl (fun w h => ((h.sel 2 [0, 1] (by decide)).mask [false, false])))
   | (refine s_isw ?_; first
   | refine c_seq ?_
   | refine c_region ?_
   | refine c_ret ?_
   | (refine s_iscond ?_; first
   | (refine c_true rfl (by first | (simp only [Bool.not_eq_true', decide_eq_false_iff_not]; omega) | (with_reducible assumption) | (rw [decide_eq_false] <;> (first | omega | with_reducible rfl)) | (rw [decide_eq_true] <;> (first | omega | with_reducible rfl)) | (simp; done) | (simp; omega)) ?_)))
   | refine x_then_ret ?_)
   | (refine z_isnil ?_; first
   | refine z_list ?_)
   | (refine z_isop ?_; first
   | refine o_build0 (t := 31) (v := .agg #[.slice none 0 0]) (fun _ => by kernel_rfl) (by decide) ?_
   | (refine z_isload ?_; first
   | (refine z_ldw tabOk rfl rfl ?_; first
   | (refine o_loadwm tabOk rfl rfl rfl (by repeat' (first | exact List.mem_cons_self | apply List.mem_cons_of_mem)) (by first | rfl | exact tq_len _ _ | exact cq_len _ | exact tqn_len _ | (simp only [tq_len, cq_len]; done) | rfl) (by decide) ?_)))
   | (refine z_isstore ?_; first
   | (refine z_stw rfl ?_; first
   | ((refine z_sti 0 rfl rfl ?_; refine o_storeb0 rfl tabOk rfl rfl rfl (by first | rfl | exact tq_len _ _ | exact cq_len _ | exact tqn_len _ | (simp only [tq_len, cq_len]; done) | rfl) (by first | rfl | exact tq_one _ _ | exact cq_one _ | rfl) (by first | rfl | exact tq_len _ _ | exact cq_len _ | exact tqn_len _ | (simp only [tq_len, cq_len]; done) | rfl) ?_))))
   | refine o_move rfl (by decide) ?_
   | refine o_assign rfl (by decide) ?_
   | refine o_extract rfl rfl (by decide) ?_
   | refine o_not rfl (by decide) ?_))
theorem set_nil (a g : Int) : Pf Try.prog 12 [.pointer none, cap a g] (.tuple #[.agg #[.slice none 0 0], .bool false]) := by
  intro w hw
  refine f_enter Try.func12 rfl Try.ntmps12 rfl hw ?_
  repeat' (first
   | ((refine z_isdst 11 ?_; refine o_fn rfl Try.func31 rfl rfl rfl (node_nil a g) (by decide) ?_))
   | ((refine z_isdst 3 ?_; refine o_boxa (vs := [.int .i64 a, .int .u64 g]) rfl rfl (by decide) fun gc => ?_))
   | ((refine z_isdst 4 ?_; refine o_alloca (e := 31) (vs := [.slice none 0 0]) rfl (by kernel_rfl) (by decide) fun g4 => ?_))
   | (refine s_is ?_; first
   | (refine s_isret ?_; first
   | exact f_r2 rfl (res_c tabOk rfl rfl rfl 0 rfl rfl) (res_t rfl) () trivial rfl (fun w h => ((h.sel 2 [0, 1] (by decide)).mask [false, false])))
   | (refine s_isw ?_; first
   | refine c_seq ?_
   | refine c_region ?_
   | refine c_ret ?_
   | (refine s_iscond ?_; first
   | (refine c_true rfl (by first | (simp only [Bool.not_eq_true', decide_eq_false_iff_not]; omega) | (with_reducible assumption) | (rw [decide_eq_false] <;> (first | omega | with_reducible rfl)) | (rw [decide_eq_true] <;> (first | omega | with_reducible rfl)) | (simp; done) | (simp; omega)) ?_)))
   | refine x_then_ret ?_)
   | (refine z_isnil ?_; first
   | refine z_list ?_)
   | (refine z_isop ?_; first
   | refine o_build0 (t := 31) (v := .agg #[.slice none 0 0]) (fun _ => by kernel_rfl) (by decide) ?_
   | (refine z_isload ?_; first
   | (refine z_ldw tabOk rfl rfl ?_; first
   | (refine o_loadwm tabOk rfl rfl rfl (by repeat' (first | exact List.mem_cons_self | apply List.mem_cons_of_mem)) (by first | rfl | exact tq_len _ _ | exact cq_len _ | exact tqn_len _ | (simp only [tq_len, cq_len]; done) | rfl) (by decide) ?_)))
   | (refine z_isstore ?_; first
   | (refine z_stw rfl ?_; first
   | ((refine z_sti 0 rfl rfl ?_; refine o_storeb0 rfl tabOk rfl rfl rfl (by first | rfl | exact tq_len _ _ | exact cq_len _ | exact tqn_len _ | (simp only [tq_len, cq_len]; done) | rfl) (by first | rfl | exact tq_one _ _ | exact cq_one _ | rfl) (by first | rfl | exact tq_len _ _ | exact cq_len _ | exact tqn_len _ | (simp only [tq_len, cq_len]; done) | rfl) ?_))))
   | refine o_move rfl (by decide) ?_
   | refine o_assign rfl (by decide) ?_
   | refine o_extract rfl rfl (by decide) ?_
   | refine o_not rfl (by decide) ?_))
attribute [local irreducible] kd' kc lv
set_option maxHeartbeats 4000000 in
theorem kids_yes (T : Tq) (l a g : Int) (b : Nat) (fr : List Chunk) (hrd : Rds fr (some ⟨b, 0, none⟩) (tq T l)) (h : isN T a g) : Does Try.prog 15 [.pointer (some ⟨b, 0, none⟩), cap a g] fr (fun _ : Option Addr × Nat => True) (fun x => .slice x.1 (kd' T a 64).length x.2) (fun x => own x.1 x.2 26 2 (kd' T a 64).length (kc T (kd' T a 64)) :: fr) := by
  intro w hw
  refine f_enter Try.func15 rfl Try.ntmps15 rfl hw ?_
  repeat' (first
   | ((refine z_isdst 13 ?_; refine o_callr rfl Try.func31 rfl rfl rfl (node_yes T l a g b _ (Rds.cons _ hrd) h) (by decide) ?_))
   | ((refine z_isdst 21 ?_; refine o_loadrw tabOk (Rds.cons _ hrd) rfl rfl rfl (es := tqn T) (tqn_len T) (by rw [tqn_len]; decide) (tq_all T l) (by decide) ?_))
   | ((refine z_isdst 3 ?_; refine o_boxa (vs := [.int .i64 a, .int .u64 g]) rfl rfl (by decide) fun gc => ?_))
   | (refine s_is ?_; first
   | (refine s_isw ?_; first
   | (refine s_isloop ?_; first
   | ((refine c_loop (X := Option Addr × Nat × Nat) (fun y => y.2.2 ≤ 64) (fun y => [(3, .pointer (some ⟨gc, 0, none⟩)), (7, .slice y.1 (kd' T a y.2.2).length y.2.1), (21, .agg (tqn T).toArray), (22, .int .i64 y.2.2)]) (fun y => own y.1 y.2.1 26 2 (kd' T a y.2.2).length (kc T (kd' T a y.2.2)) :: cells gc 26 [.int .i64 a, .int .u64 g] :: fr) (fun y => 64 - y.2.2) (none, 0, 0) (Nat.zero_le _) ⟨rfl, (by dsimp only; rw [kd_zero]; rfl), rfl, rfl, trivial⟩ (fun w h => by dsimp only; rw [kd_zero, kc_nil]; exact h.nil 26 2) (fun y hk => ?_); obtain ⟨D, d, k⟩ := y; dsimp only at hk ⊢; refine hold ?_)))
   | refine c_seq ?_
   | refine c_block ?_
   | refine c_region ?_
   | refine c_skip ?_
   | (refine s_iscond ?_; first
   | (refine c_false rfl (by first | (simp only [Bool.not_eq_false', decide_eq_true_eq]; omega) | (with_reducible assumption) | (rw [decide_eq_false] <;> (first | omega | with_reducible rfl)) | (rw [decide_eq_true] <;> (first | omega | with_reducible rfl)) | (simp; done) | (simp; omega)) ?_))))
   | (refine z_isnil ?_; first
   | refine z_list ?_)
   | (refine z_isop ?_; first
   | refine o_nil rfl (by decide) ?_
   | (refine z_isload ?_; first
   | (refine z_ldw tabOk rfl rfl ?_; first
   | (refine o_loadwm tabOk rfl rfl rfl (by repeat' (first | exact List.mem_cons_self | apply List.mem_cons_of_mem)) (by first | rfl | exact tq_len _ _ | exact cq_len _ | exact tqn_len _ | (simp only [tq_len, cq_len]; done) | rfl) (by decide) ?_)))
   | refine o_move rfl (by decide) ?_
   | refine o_assign rfl (by decide) ?_
   | refine o_nil rfl (by decide) ?_
   | refine o_extract rfl rfl (by decide) ?_
   | refine o_not rfl (by decide) ?_
   | refine o_field0 tabOk rfl rfl rfl rfl rfl (by decide) ?_))
  refine Hold.go ?_
  have hkl := kd_le T a k
  by_cases hl : k < 64
  · by_cases hg : (T k).g = 0
    · have hn := kd_no (T := T) (a := a) (n := k) (fun e => e.1 hg)
      repeat' (first
       | ((refine z_isdst 25 ?_; refine o_ixw tabOk rfl rfl rfl rfl rfl (by omega) (by omega) (tqn_el T hl) (by decide) ?_))
       | ((refine z_isdst 9 ?_; refine o_alloca (e := 70) (vs := Cq.zero.cs) rfl (by rw [cq_zero]; kernel_rfl) (by decide) fun g9 => ?_))
       | (refine s_is ?_; first
       | (refine s_isagain ?_; first
       | (exact c_again (D, d, k + 1) (by dsimp only; omega) (by dsimp only; omega) ⟨rfl, (by dsimp only; rw [hn]; rfl), rfl, rfl, trivial⟩ (fun w h => by dsimp only; rw [hn]; exact ((h.sel 3 [1, 2, 0] (by decide)).mask [true, true, false]))))
       | (refine s_isw ?_; first
       | refine c_seq ?_
       | refine c_block ?_
       | refine c_region ?_
       | refine c_skip ?_
       | (refine s_iscond ?_; first
       | (refine c_true rfl (by first | with_reducible rfl | with_reducible assumption | ((with_reducible refine decide_eq_true ?_); first | with_reducible rfl | with_reducible assumption | omega)) ?_)
       | (refine c_false rfl (by first | with_reducible rfl | with_reducible assumption | ((with_reducible refine decide_eq_false ?_); first | with_reducible assumption | omega)) ?_))))
       | (refine z_isg1 ?_; first
       | (refine z_skip1 (by decide) rfl rfl (by first | with_reducible rfl | with_reducible assumption | ((with_reducible refine decide_eq_false ?_); first | with_reducible assumption | omega)) ?_))
       | (refine z_isnil ?_; first
       | refine z_list ?_)
       | (refine z_isop ?_; first
       | (refine z_isbin ?_; first
       | (refine z_isb .add ?_; first
       | refine o_add rfl rfl (by omega) (by omega) (by decide) ?_)
       | (refine z_isb .neq ?_; first
       | refine o_ne rfl rfl (by decide) ?_)
       | (refine z_isb .lss ?_; first
       | refine o_lt rfl rfl (by decide) ?_))
       | (refine z_isload ?_; first
       | (refine z_ld1 tabOk rfl rfl ?_; first
       | refine o_loadm tabOk rfl rfl rfl (by repeat' (first | exact List.mem_cons_self | apply List.mem_cons_of_mem)) (by first | exact tq_g _ _ (by omega) | exact tq_p _ _ (by omega) | exact tq_s _ _ (by omega) | exact tq_last _ _ | exact cq_g _ | exact cq_p _ | exact cq_s _ | rfl | rfl) (by decide) ?_))
       | (refine z_isstore ?_; first
       | (refine z_stw rfl ?_; first
       | ((refine z_sti 0 rfl rfl ?_; refine o_storeb0 rfl tabOk rfl rfl rfl (by first | rfl | exact tq_len _ _ | exact cq_len _ | exact tqn_len _ | (simp only [tq_len, cq_len]; done) | rfl) (by first | rfl | exact tq_one _ _ | exact cq_one _ | rfl) (by first | rfl | exact tq_len _ _ | exact cq_len _ | exact tqn_len _ | (simp only [tq_len, cq_len]; done) | rfl) ?_))))
       | (refine z_ispick ?_; first
       | (refine o_pick0 rfl (by first | with_reducible rfl | with_reducible assumption | ((with_reducible refine decide_eq_false ?_); first | with_reducible assumption | omega)) rfl (by decide) ?_))
       | refine o_move rfl (by decide) ?_
       | refine o_assign rfl (by decide) ?_
       | refine o_field0 tabOk rfl rfl rfl rfl rfl (by decide) ?_))
    · by_cases hp : (T k).p = a
      · have hn := kd_yes (T := T) (a := a) (n := k) ⟨hg, hp⟩
        repeat' (first
         | ((refine z_isdst 25 ?_; refine o_ixw tabOk rfl rfl rfl rfl rfl (by omega) (by omega) (tqn_el T hl) (by decide) ?_))
         | ((refine z_isdst 9 ?_; refine o_alloca (e := 70) (vs := Cq.zero.cs) rfl (by rw [cq_zero]; kernel_rfl) (by decide) fun g9 => ?_))
         | (refine s_is ?_; first
         | (refine s_isagain ?_; first
         | (exact c_again (A', c', k + 1) (by dsimp only; omega) (by dsimp only; omega) ⟨rfl, (by dsimp only; rw [hn, List.length_append]; rfl), rfl, rfl, trivial⟩ (fun w h => by dsimp only; rw [hn, kc_add, List.length_append]; exact ((h.sel 4 [0, 3, 1, 2] (by decide)).mask [true, true, false, false]))))
         | (refine s_isw ?_; first
         | refine c_seq ?_
         | refine c_block ?_
         | refine c_region ?_
         | refine c_skip ?_
         | (refine s_iscond ?_; first
         | (refine c_true rfl (by first | with_reducible rfl | with_reducible assumption | ((with_reducible refine decide_eq_true ?_); first | with_reducible rfl | with_reducible assumption | omega)) ?_))))
         | (refine z_isg1 ?_; first
         | (refine z_want1 rfl rfl (by first | with_reducible rfl | with_reducible assumption | ((with_reducible refine decide_eq_true ?_); first | with_reducible rfl | with_reducible assumption | omega)) ?_))
         | (refine z_isnil ?_; first
         | refine z_list ?_)
         | (refine z_isop ?_; first
         | (refine o_buildf (t := 26) (zs := [.int .i64 0, .int .u64 0]) (vs := [.int .i64 k, .int .u64 (T k).g]) tabOk rfl rfl (by kernel_rfl) rfl ⟨_, _, rfl, rfl, Nat.le_of_ble_eq_true rfl, _, _, rfl, rfl, Nat.le_of_ble_eq_true rfl, rfl⟩ (by decide) ?_)
         | refine o_makew (vs := [.int .i64 k, .int .u64 (T k).g]) rfl tabOk zeroOk rfl rfl rfl rfl rfl rfl rfl (by decide) fun gn => ?_
         | (refine z_isbin ?_; first
         | (refine z_isb .add ?_; first
         | refine o_add rfl rfl (by omega) (by omega) (by decide) ?_)
         | (refine z_isb .eql ?_; first
         | refine o_eq rfl rfl (by decide) ?_)
         | (refine z_isb .neq ?_; first
         | refine o_ne rfl rfl (by decide) ?_)
         | (refine z_isb .lss ?_; first
         | refine o_lt rfl rfl (by decide) ?_))
         | (refine z_isload ?_; first
         | (refine z_ld1 tabOk rfl rfl ?_; first
         | refine o_loadm tabOk rfl rfl rfl (by repeat' (first | exact List.mem_cons_self | apply List.mem_cons_of_mem)) (by first | exact tq_g _ _ (by omega) | exact tq_p _ _ (by omega) | exact tq_s _ _ (by omega) | exact tq_last _ _ | exact cq_g _ | exact cq_p _ | exact cq_s _ | rfl | rfl) (by decide) ?_))
         | (refine z_isstore ?_; first
         | (refine z_stw rfl ?_; first
         | ((refine z_sti 0 rfl rfl ?_; refine o_storeb0 rfl tabOk rfl rfl rfl (by first | rfl | exact tq_len _ _ | exact cq_len _ | exact tqn_len _ | (simp only [tq_len, cq_len]; done) | rfl) (by first | rfl | exact tq_one _ _ | exact cq_one _ | rfl) (by first | rfl | exact tq_len _ _ | exact cq_len _ | exact tqn_len _ | (simp only [tq_len, cq_len]; done) | rfl) ?_))))
         | (refine z_ispick ?_; first
         | (refine o_pick1 rfl (by first | with_reducible rfl | with_reducible assumption | ((with_reducible refine decide_eq_true ?_); first | with_reducible rfl | with_reducible assumption | omega)) rfl (by decide) ?_))
         | (refine z_isbi ?_; first
         | (refine z_front rfl 2 rfl ?_; refine o_append rfl tabOk zeroOk rfl rfl rfl rfl rfl rfl (by first | exact own_rds 1 rfl | exact own_rds 0 rfl | assumption) (by first | rfl | rfl | (simp; done)) (by first | rfl | rfl | (simp; done)) (by omega) (by omega) (by decide) fun A' c' => ?_))
         | refine o_move rfl (by decide) ?_
         | refine o_assign rfl (by decide) ?_
         | refine o_field0 tabOk rfl rfl rfl rfl rfl (by decide) ?_))
      · have hn := kd_no (T := T) (a := a) (n := k) (fun e => hp e.2)
        repeat' (first
         | ((refine z_isdst 25 ?_; refine o_ixw tabOk rfl rfl rfl rfl rfl (by omega) (by omega) (tqn_el T hl) (by decide) ?_))
         | ((refine z_isdst 9 ?_; refine o_alloca (e := 70) (vs := Cq.zero.cs) rfl (by rw [cq_zero]; kernel_rfl) (by decide) fun g9 => ?_))
         | (refine s_is ?_; first
         | (refine s_isagain ?_; first
         | (exact c_again (D, d, k + 1) (by dsimp only; omega) (by dsimp only; omega) ⟨rfl, (by dsimp only; rw [hn]; rfl), rfl, rfl, trivial⟩ (fun w h => by dsimp only; rw [hn]; exact ((h.sel 3 [1, 2, 0] (by decide)).mask [true, true, false]))))
         | (refine s_isw ?_; first
         | refine c_seq ?_
         | refine c_block ?_
         | refine c_region ?_
         | refine c_skip ?_
         | (refine s_iscond ?_; first
         | (refine c_true rfl (by first | with_reducible rfl | with_reducible assumption | ((with_reducible refine decide_eq_true ?_); first | with_reducible rfl | with_reducible assumption | omega)) ?_)
         | (refine c_false rfl (by first | with_reducible rfl | with_reducible assumption | ((with_reducible refine decide_eq_false ?_); first | with_reducible assumption | omega)) ?_))))
         | (refine z_isg1 ?_; first
         | (refine z_want1 rfl rfl (by first | with_reducible rfl | with_reducible assumption | ((with_reducible refine decide_eq_true ?_); first | with_reducible rfl | with_reducible assumption | omega)) ?_))
         | (refine z_isnil ?_; first
         | refine z_list ?_)
         | (refine z_isop ?_; first
         | (refine z_isbin ?_; first
         | (refine z_isb .add ?_; first
         | refine o_add rfl rfl (by omega) (by omega) (by decide) ?_)
         | (refine z_isb .eql ?_; first
         | refine o_eq rfl rfl (by decide) ?_)
         | (refine z_isb .neq ?_; first
         | refine o_ne rfl rfl (by decide) ?_)
         | (refine z_isb .lss ?_; first
         | refine o_lt rfl rfl (by decide) ?_))
         | (refine z_isload ?_; first
         | (refine z_ld1 tabOk rfl rfl ?_; first
         | refine o_loadm tabOk rfl rfl rfl (by repeat' (first | exact List.mem_cons_self | apply List.mem_cons_of_mem)) (by first | exact tq_g _ _ (by omega) | exact tq_p _ _ (by omega) | exact tq_s _ _ (by omega) | exact tq_last _ _ | exact cq_g _ | exact cq_p _ | exact cq_s _ | rfl | rfl) (by decide) ?_))
         | (refine z_isstore ?_; first
         | (refine z_stw rfl ?_; first
         | ((refine z_sti 0 rfl rfl ?_; refine o_storeb0 rfl tabOk rfl rfl rfl (by first | rfl | exact tq_len _ _ | exact cq_len _ | exact tqn_len _ | (simp only [tq_len, cq_len]; done) | rfl) (by first | rfl | exact tq_one _ _ | exact cq_one _ | rfl) (by first | rfl | exact tq_len _ _ | exact cq_len _ | exact tqn_len _ | (simp only [tq_len, cq_len]; done) | rfl) ?_))))
         | (refine z_ispick ?_; first
         | (refine o_pick1 rfl (by first | with_reducible rfl | with_reducible assumption | ((with_reducible refine decide_eq_true ?_); first | with_reducible rfl | with_reducible assumption | omega)) rfl (by decide) ?_))
         | refine o_move rfl (by decide) ?_
         | refine o_assign rfl (by decide) ?_
         | refine o_field0 tabOk rfl rfl rfl rfl rfl (by decide) ?_))
  · obtain rfl : k = 64 := by omega
    repeat' (first
     | (refine s_is ?_; first
     | (refine s_isret ?_; first
     | exact f_r1 rfl (res_t rfl) (D, d) trivial rfl (fun w h => ((h.sel 2 [0, 1] (by decide)).mask [true, false])))
     | (refine s_isw ?_; first
     | refine c_seq ?_
     | refine c_region ?_
     | refine c_ret ?_
     | refine c_exit ?_
     | (refine s_iscond ?_; first
     | (refine c_false rfl (by first | with_reducible rfl | with_reducible assumption | ((with_reducible refine decide_eq_false ?_); first | with_reducible assumption | omega)) ?_))))
     | (refine z_isnil ?_; first
     | refine z_list ?_)
     | (refine z_isop ?_; first
     | (refine z_isbin ?_; first
     | (refine z_isb .lss ?_; first
     | refine o_lt rfl rfl (by decide) ?_))
     | refine o_move rfl (by decide) ?_
     | refine o_assign rfl (by decide) ?_))
theorem kids_nil (a g : Int) : Pf Try.prog 15 [.pointer none, cap a g] (.slice none 0 0) := by
  intro w hw
  refine f_enter Try.func15 rfl Try.ntmps15 rfl hw ?_
  repeat' (first
   | ((refine z_isdst 3 ?_; refine o_boxa (vs := [.int .i64 a, .int .u64 g]) rfl rfl (by decide) fun gc => ?_))
   | ((refine z_isdst 13 ?_; refine o_fn rfl Try.func31 rfl rfl rfl (node_nil a g) (by decide) ?_))
   | (refine s_is ?_; first
   | (refine s_isret ?_; first
   | exact p_r1 rfl (res_t rfl))
   | (refine s_isw ?_; first
   | refine c_seq ?_
   | refine c_region ?_
   | refine c_ret ?_
   | (refine s_iscond ?_; first
   | (refine c_true rfl (by first | (simp only [Bool.not_eq_true', decide_eq_false_iff_not]; omega) | (with_reducible assumption) | (rw [decide_eq_false] <;> (first | omega | with_reducible rfl)) | (rw [decide_eq_true] <;> (first | omega | with_reducible rfl)) | (simp; done) | (simp; omega)) ?_)))
   | refine x_then_ret ?_)
   | (refine z_isnil ?_; first
   | refine z_list ?_)
   | (refine z_isop ?_; first
   | (refine z_isload ?_; first
   | (refine z_ldw tabOk rfl rfl ?_; first
   | (refine o_loadwm tabOk rfl rfl rfl (by repeat' (first | exact List.mem_cons_self | apply List.mem_cons_of_mem)) (by first | rfl | exact tq_len _ _ | exact cq_len _ | exact tqn_len _ | (simp only [tq_len, cq_len]; done) | rfl) (by decide) ?_)))
   | refine o_move rfl (by decide) ?_
   | refine o_assign rfl (by decide) ?_
   | refine o_extract rfl rfl (by decide) ?_
   | refine o_not rfl (by decide) ?_))
theorem clen_c (T : Tq) (l : Int) (b : Nat) (fr : List Chunk) (hrd : Rds fr (some ⟨b, 0, none⟩) (tq T l)) : Does Try.prog 26 [.pointer (some ⟨b, 0, none⟩)] fr (fun _ : Unit => True) (fun _ => .int .i64 (lv T 64)) (fun _ => fr) := by
  intro w hw
  refine f_enter Try.func26 rfl Try.ntmps26 rfl hw ?_
  repeat' (first
   | ((refine z_isdst 11 ?_; refine o_loadrw tabOk hrd rfl rfl rfl (es := tqn T) (tqn_len T) (by rw [tqn_len]; decide) (tq_all T l) (by decide) ?_))
   | (refine s_is ?_; first
   | (refine s_isw ?_; first
   | (refine s_isloop ?_; first
   | ((refine c_loop (X := Nat) (fun k => k ≤ 64) (fun k => [(3, .int .i64 (lv T k)), (11, .agg (tqn T).toArray), (12, .int .i64 k)]) (fun _ => fr) (fun k => 64 - k) 0 (Nat.zero_le _) ⟨(by rw [lv_zero]; rfl), rfl, rfl, trivial⟩ (fun w h => h) (fun k hk => ?_); refine hold ?_)))
   | refine c_seq ?_
   | refine c_block ?_
   | refine c_region ?_
   | (refine s_iscond ?_; first
   | (refine c_true rfl (by first | (simp only [Bool.not_eq_true', decide_eq_false_iff_not]; omega) | (with_reducible assumption) | (rw [decide_eq_false] <;> (first | omega | with_reducible rfl)) | (rw [decide_eq_true] <;> (first | omega | with_reducible rfl)) | (simp; done) | (simp; omega)) ?_))))
   | (refine z_isnil ?_; first
   | refine z_list ?_)
   | (refine z_isop ?_; first
   | refine o_nil rfl (by decide) ?_
   | (refine z_isbin ?_; first
   | (refine z_isb .neq ?_; first
   | refine o_pne tabOk rfl rfl (by decide) ?_))
   | refine o_move rfl (by decide) ?_
   | refine o_assign rfl (by decide) ?_
   | refine o_nil rfl (by decide) ?_
   | refine o_field0 tabOk rfl rfl rfl rfl rfl (by decide) ?_))
  refine Hold.go ?_
  have hkl := lv_le T k
  by_cases hl : k < 64
  · by_cases hg : (T k).g = 0
    · have hn := lv_no hg
      repeat' (first
       | ((refine z_isdst 14 ?_; refine o_ixw tabOk rfl rfl rfl rfl rfl (by omega) (by omega) (tqn_el T hl) (by decide) ?_))
       | ((refine z_isdst 5 ?_; refine o_alloca (e := 70) (vs := Cq.zero.cs) rfl (by rw [cq_zero]; kernel_rfl) (by decide) fun g9 => ?_))
       | (refine s_is ?_; first
       | (refine s_isagain ?_; first
       | (exact c_again (k + 1) (by omega) (by omega) ⟨(by rw [hn]; rfl), rfl, rfl, trivial⟩ (fun w h => ((h.sel 1 [0] (by decide)).mask [false]))))
       | (refine s_isw ?_; first
       | refine c_seq ?_
       | refine c_block ?_
       | refine c_region ?_
       | refine c_skip ?_
       | (refine s_iscond ?_; first
       | (refine c_true rfl (by first | with_reducible rfl | with_reducible assumption | ((with_reducible refine decide_eq_true ?_); first | with_reducible rfl | with_reducible assumption | omega)) ?_)
       | (refine c_false rfl (by first | with_reducible rfl | with_reducible assumption | ((with_reducible refine decide_eq_false ?_); first | with_reducible assumption | omega)) ?_))))
       | (refine z_isnil ?_; first
       | refine z_list ?_)
       | (refine z_isop ?_; first
       | (refine z_isbin ?_; first
       | (refine z_isb .add ?_; first
       | refine o_add rfl rfl (by omega) (by omega) (by decide) ?_)
       | (refine z_isb .neq ?_; first
       | refine o_ne rfl rfl (by decide) ?_)
       | (refine z_isb .lss ?_; first
       | refine o_lt rfl rfl (by decide) ?_))
       | (refine z_isload ?_; first
       | (refine z_ld1 tabOk rfl rfl ?_; first
       | refine o_loadm tabOk rfl rfl rfl (by repeat' (first | exact List.mem_cons_self | apply List.mem_cons_of_mem)) (by first | exact tq_g _ _ (by omega) | exact tq_p _ _ (by omega) | exact tq_s _ _ (by omega) | exact tq_last _ _ | exact cq_g _ | exact cq_p _ | exact cq_s _ | rfl | rfl) (by decide) ?_))
       | (refine z_isstore ?_; first
       | (refine z_stw rfl ?_; first
       | ((refine z_sti 0 rfl rfl ?_; refine o_storeb0 rfl tabOk rfl rfl rfl (by first | rfl | exact tq_len _ _ | exact cq_len _ | exact tqn_len _ | (simp only [tq_len, cq_len]; done) | rfl) (by first | rfl | exact tq_one _ _ | exact cq_one _ | rfl) (by first | rfl | exact tq_len _ _ | exact cq_len _ | exact tqn_len _ | (simp only [tq_len, cq_len]; done) | rfl) ?_))))
       | refine o_move rfl (by decide) ?_
       | refine o_field0 tabOk rfl rfl rfl rfl rfl (by decide) ?_))
    · have hn := lv_yes hg
      repeat' (first
       | ((refine z_isdst 14 ?_; refine o_ixw tabOk rfl rfl rfl rfl rfl (by omega) (by omega) (tqn_el T hl) (by decide) ?_))
       | ((refine z_isdst 5 ?_; refine o_alloca (e := 70) (vs := Cq.zero.cs) rfl (by rw [cq_zero]; kernel_rfl) (by decide) fun g9 => ?_))
       | (refine s_is ?_; first
       | (refine s_isagain ?_; first
       | (exact c_again (k + 1) (by omega) (by omega) ⟨(by rw [hn]; exact congrArg some (congrArg (Value.int .i64) (by omega))), rfl, rfl, trivial⟩ (fun w h => ((h.sel 1 [0] (by decide)).mask [false]))))
       | (refine s_isw ?_; first
       | refine c_seq ?_
       | refine c_block ?_
       | refine c_region ?_
       | refine c_skip ?_
       | (refine s_iscond ?_; first
       | (refine c_true rfl (by first | with_reducible rfl | with_reducible assumption | ((with_reducible refine decide_eq_true ?_); first | with_reducible rfl | with_reducible assumption | omega)) ?_))))
       | (refine z_isnil ?_; first
       | refine z_list ?_)
       | (refine z_isop ?_; first
       | (refine z_isbin ?_; first
       | (refine z_isb .add ?_; first
       | refine o_add rfl rfl (by omega) (by omega) (by decide) ?_)
       | (refine z_isb .neq ?_; first
       | refine o_ne rfl rfl (by decide) ?_)
       | (refine z_isb .lss ?_; first
       | refine o_lt rfl rfl (by decide) ?_))
       | (refine z_isload ?_; first
       | (refine z_ld1 tabOk rfl rfl ?_; first
       | refine o_loadm tabOk rfl rfl rfl (by repeat' (first | exact List.mem_cons_self | apply List.mem_cons_of_mem)) (by first | exact tq_g _ _ (by omega) | exact tq_p _ _ (by omega) | exact tq_s _ _ (by omega) | exact tq_last _ _ | exact cq_g _ | exact cq_p _ | exact cq_s _ | rfl | rfl) (by decide) ?_))
       | (refine z_isstore ?_; first
       | (refine z_stw rfl ?_; first
       | ((refine z_sti 0 rfl rfl ?_; refine o_storeb0 rfl tabOk rfl rfl rfl (by first | rfl | exact tq_len _ _ | exact cq_len _ | exact tqn_len _ | (simp only [tq_len, cq_len]; done) | rfl) (by first | rfl | exact tq_one _ _ | exact cq_one _ | rfl) (by first | rfl | exact tq_len _ _ | exact cq_len _ | exact tqn_len _ | (simp only [tq_len, cq_len]; done) | rfl) ?_))))
       | refine o_move rfl (by decide) ?_
       | refine o_assign rfl (by decide) ?_
       | refine o_field0 tabOk rfl rfl rfl rfl rfl (by decide) ?_))
  · obtain rfl : k = 64 := by omega
    repeat' (first
     | (refine s_is ?_; first
     | (refine s_isret ?_; first
     | exact f_r1 rfl (res_t rfl) () trivial rfl (fun w h => h))
     | (refine s_isw ?_; first
     | refine c_seq ?_
     | refine c_region ?_
     | refine c_ret ?_
     | refine c_exit ?_
     | (refine s_iscond ?_; first
     | (refine c_false rfl (by first | with_reducible rfl | with_reducible assumption | ((with_reducible refine decide_eq_false ?_); first | with_reducible assumption | omega)) ?_))))
     | (refine z_isnil ?_; first
     | refine z_list ?_)
     | (refine z_isop ?_; first
     | (refine z_isbin ?_; first
     | (refine z_isb .lss ?_; first
     | refine o_lt rfl rfl (by decide) ?_))
     | refine o_move rfl (by decide) ?_
     | refine o_assign rfl (by decide) ?_))
theorem clen_nil : Pf Try.prog 26 [.pointer none] (.int .i64 0) := by
  intro w hw
  refine f_enter Try.func26 rfl Try.ntmps26 rfl hw ?_
  repeat' (first
   | (refine s_is ?_; first
   | (refine s_isret ?_; first
   | exact p_r1 rfl (res_t rfl))
   | (refine s_isw ?_; first
   | refine c_seq ?_
   | refine c_region ?_
   | refine c_skip ?_
   | refine c_ret ?_
   | (refine s_iscond ?_; first
   | (refine c_false rfl (by first | (simp only [Bool.not_eq_false', decide_eq_true_eq]; omega) | (with_reducible assumption) | (rw [decide_eq_false] <;> (first | omega | with_reducible rfl)) | (rw [decide_eq_true] <;> (first | omega | with_reducible rfl)) | (simp; done) | (simp; omega)) ?_))))
   | (refine z_isnil ?_; first
   | refine z_list ?_)
   | (refine z_isop ?_; first
   | (refine z_isbin ?_; first
   | (refine z_isb .neq ?_; first
   | refine o_pne tabOk rfl rfl (by decide) ?_))
   | refine o_move rfl (by decide) ?_
   | refine o_assign rfl (by decide) ?_))
end Go.Proofs.Ytfegdehgnhomnaa
