/-
Caps: a tree is made; what is lent; what is taken back.
-/
import Derived.Test.YtfegdehgnhomnaaCa2
namespace Go.Proofs.Ytfegdehgnhomnaa
set_option linter.unusedVariables false
set_option linter.unusedSimpArgs false
open Eng
instance (T : Tq) (a g : Int) : Decidable (isN T a g) := by unfold isN; infer_instance
def Tq.zero : Tq := fun _ => Cq.zero
/-- The cells of a tree of nothing. -/
def zt (l : Int) : List Value := (List.replicate 64 [Value.int .u64 0, Value.int .i64 0, Value.slice none 0 0]).flatten ++ [.int .u64 l]
theorem zt_aux : ∀ n, ((List.range n).map Tq.zero).flatMap Cq.cs = (List.replicate n [Value.int .u64 0, Value.int .i64 0, Value.slice none 0 0]).flatten := fun n => by
  rw [← cq_zero]
  induction n with
  | zero => rfl
  | succ n ih =>
    rw [List.range_succ, List.map_append, List.flatMap_append, ih, List.replicate_succ', List.flatten_append]
    simp [Tq.zero]
theorem zt_tq (l : Int) : zt l = tq Tq.zero l := by
  unfold zt tq tqn
  rw [zt_aux]
/-- What those of the first n of a list have. -/
def ls (T : Tq) (K : List Nat) : Nat → Nat → Bool
  | 0 => emp
  | n + 1 => layS 0 (ls T K n) (T (K.getD n 0)).s
theorem ls_zero (T : Tq) (K : List Nat) : ls T K 0 = emp := rfl
theorem ls_succ (T : Tq) (K : List Nat) (n : Nat) : layS 0 (ls T K n) (T (K.getD n 0)).s = ls T K (n + 1) := rfl
theorem kc_el {T : Tq} {K : List Nat} {k : Nat} (h : k < K.length) : ∀ (j : Nat) u, [Value.int .i64 (K.getD k 0 : Nat), Value.int .u64 (T (K.getD k 0)).g][j]? = some u → (kc T K)[((k : Int)).toNat * 2 + j]? = some u := fun j u hu => by
  have hj : j < 2 := (List.getElem?_eq_some_iff.1 hu).1
  rw [Int.toNat_natCast]
  unfold kc
  rw [flat_get (kc1 T) 2 (kc1_len T) K k j (K.getD k 0) (by simp [h]) hj]
  exact hu
theorem kd_lt {T : Tq} {a : Int} {k : Nat} (h : k < (kd' T a 64).length) : (kd' T a 64).getD k 0 < 64 := by
  have : (kd' T a 64).getD k 0 = (kd' T a 64)[k] := by simp [h]
  rw [this]
  exact ((kd_mem (T := T) (a := a) 64).1 (List.getElem_mem h)).1
attribute [local irreducible] Eng.Hold Eng.Z Eng.S Eng.cells Eng.old Eng.own rc rws tq tqn Cq.cs emp
attribute [local irreducible] kd' kc lv zt ls layS
set_option maxHeartbeats 4000000 in
theorem cnew_c (s : Nat → Bool) (A : Option Addr) (c : Nat) (fr : List Chunk) : Does Try.prog 7 [.agg #[.slice A (rws s).length c]] fr (fun _ : Nat => True) (fun b => .tuple #[.pointer (some ⟨b, 0, none⟩), cap 0 1]) (fun b => cells b 73 (tq (upd Tq.zero 0 ⟨1, -1, A, c, s⟩) 1) :: fr) := by
  intro w hw
  refine f_enter Try.func7 rfl Try.ntmps7 rfl hw ?_
  repeat' (first
   | ((refine z_isdst 1 ?_; refine o_boxa (vs := [.slice A (rws s).length c]) rfl rfl (by decide) fun gs => ?_))
   | ((refine z_isdst 3 ?_; refine o_alloca (e := 26) (vs := [.int .i64 0, .int .u64 0]) rfl (by kernel_rfl) (by decide) fun g3 => ?_))
   | ((refine z_isdst 5 ?_; refine o_build (v := .agg (zt 1).toArray) rfl (fun _ => by kernel_rfl) (by decide) ?_))
   | ((refine z_isdst 6 ?_; refine o_boxa (vs := zt 1) rfl rfl (by decide) fun gt => ?_; rw [zt_tq]))
   | ((refine z_isdst 14 ?_; refine o_buildf (t := 26) (zs := [.int .i64 0, .int .u64 0]) (vs := [.int .i64 0, .int .u64 1]) tabOk rfl rfl (by kernel_rfl) rfl ⟨_, _, rfl, rfl, Nat.le_of_ble_eq_true rfl, _, _, rfl, rfl, Nat.le_of_ble_eq_true rfl, rfl⟩ (by decide) ?_))
   | ((refine z_isdst 9 ?_; refine o_buildf (t := 70) (zs := [.int .u64 0, .int .i64 0, .slice none 0 0]) (vs := [.int .u64 1, .int .i64 (-1), .slice A (rws s).length c]) tabOk rfl rfl (by kernel_rfl) rfl ⟨_, _, rfl, rfl, Nat.le_of_ble_eq_true rfl, _, _, rfl, rfl, Nat.le_of_ble_eq_true rfl, _, _, rfl, rfl, Nat.le_of_ble_eq_true rfl, rfl⟩ (by decide) ?_))
   | (refine s_is ?_; first
   | (refine s_isret ?_; first
   | exact f_r2 rfl (res_t rfl) (res_c tabOk rfl rfl rfl 1 rfl rfl) gt trivial rfl (fun w h => ((h.sel 3 [0, 1, 2] (by decide)).mask [true, false, false])))
   | (refine s_isw ?_; first
   | refine c_seq ?_
   | refine c_region ?_
   | refine c_mixed mixed (by kernel_rfl) ?_
   | refine c_ret ?_))
   | (refine z_isnil ?_; first
   | refine z_list ?_
   | refine z_mixed ?_)
   | (refine z_isop ?_; first
   | refine o_nil rfl (by decide) ?_
   | refine o_indexm tabOk rfl rfl rfl rfl (by omega) (by omega) (by decide) ?_
   | (refine z_isload ?_; first
   | (refine z_ldw tabOk rfl rfl ?_; first
   | (refine o_loadwm tabOk rfl rfl rfl (by repeat' (first | exact List.mem_cons_self | apply List.mem_cons_of_mem)) (by first | rfl | exact tq_len _ _ | exact cq_len _ | exact tqn_len _ | (simp only [tq_len, cq_len]; done) | rfl) (by decide) ?_)))
   | (refine z_isstore ?_; first
   | (refine o_storew_at rfl 0 tabOk rfl rfl rfl rfl rfl rfl (by rw [tq_len]; exact Nat.le_of_ble_eq_true rfl) (tq_putx Tq.zero 1 (i := 0) (by omega) _ _ _ _ _) ?_)
   | (refine z_stw rfl ?_; first
   | ((refine z_sti 1 rfl rfl ?_; refine o_storeb1 rfl tabOk rfl rfl rfl (by first | rfl | exact tq_len _ _ | exact cq_len _ | exact tqn_len _ | (simp only [tq_len, cq_len]; done) | rfl) (by first | rfl | exact tq_one _ _ | exact cq_one _ | rfl) (by first | rfl | exact tq_len _ _ | exact cq_len _ | exact tqn_len _ | (simp only [tq_len, cq_len]; done) | rfl) ?_))))
   | refine o_move rfl (by decide) ?_
   | refine o_assign rfl (by decide) ?_
   | refine o_nil rfl (by decide) ?_
   | refine o_field0 tabOk rfl rfl rfl rfl rfl (by decide) ?_))
set_option maxHeartbeats 4000000 in
theorem lent_yes (T : Tq) (l a g : Int) (b : Nat) (fr : List Chunk) (hrd : Rds fr (some ⟨b, 0, none⟩) (tq T l)) (hal : Al fr T) (h : isN T a g) : Does Try.prog 17 [.pointer (some ⟨b, 0, none⟩), cap a g] fr (fun _ : Option Addr × Nat => True) (fun x => .agg #[.slice x.1 (rws (ls T (kd' T a 64) (kd' T a 64).length)).length x.2]) (fun x => own x.1 x.2 75 2 (rws (ls T (kd' T a 64) (kd' T a 64).length)).length (rc (rws (ls T (kd' T a 64) (kd' T a 64).length))) :: fr) := by
  intro w hw
  have hkl := kd_le T a 64
  refine f_enter Try.func17 rfl Try.ntmps17 rfl hw ?_
  repeat' (first
   | ((refine z_isdst 10 ?_; refine o_calla Try.func15 rfl rfl rfl (kids_yes T l a g b _ (hrd.sub (List.sublist_append_right [_, _, _] _)) h) (by decide) fun x _ => ?_))
   | ((refine z_isdst 3 ?_; refine o_boxa (vs := [.int .i64 a, .int .u64 g]) rfl rfl (by decide) fun gc => ?_))
   | ((refine z_isdst 4 ?_; refine o_alloca (e := 31) (vs := [.slice none 0 0]) rfl (by kernel_rfl) (by decide) fun g4 => ?_))
   | ((refine z_isdst 5 ?_; refine o_alloca (e := 31) (vs := [.slice none 0 0]) rfl (by kernel_rfl) (by decide) fun g5 => ?_))
   | (refine s_is ?_; first
   | (refine s_isw ?_; first
   | (refine s_isloop ?_; first
   | ((refine c_loop (X := Option Addr × Nat × Nat) (fun y => y.2.2 ≤ (kd' T a 64).length) (fun y => [(0, .pointer (some ⟨b, 0, none⟩)), (4, .pointer (some ⟨g4, 0, none⟩)), (5, .pointer (some ⟨g5, 0, none⟩)), (10, .slice x.1 (kd' T a 64).length x.2), (11, .int .i64 (kd' T a 64).length), (12, .int .i64 y.2.2)]) (fun y => cells g5 31 [.slice y.1 (rws (ls T (kd' T a 64) y.2.2)).length y.2.1] :: own y.1 y.2.1 75 2 (rws (ls T (kd' T a 64) y.2.2)).length (rc (rws (ls T (kd' T a 64) y.2.2))) :: cells g4 31 [.slice none 0 0] :: own x.1 x.2 26 2 (kd' T a 64).length (kc T (kd' T a 64)) :: fr) (fun y => (kd' T a 64).length - y.2.2) (none, 0, 0) (Nat.zero_le _) ⟨rfl, rfl, rfl, rfl, rfl, rfl, trivial⟩ (fun w h => by dsimp only; rw [ls_zero, rws_emp, rc_nil]; exact (((((h.sel 4 [1, 2, 0, 3] (by decide)).mask [true, true, true, false])).nil 75 2).sel 4 [1, 0, 2, 3] (by decide))) (fun y hk => ?_); obtain ⟨D, d, k⟩ := y; dsimp only at hk ⊢; refine c_own2 3 rfl fun hkc hne => ?_; refine hold ?_)))
   | refine c_seq ?_
   | refine c_block ?_
   | refine c_region ?_))
   | (refine z_isnil ?_; first
   | refine z_list ?_)
   | (refine z_isop ?_; first
   | (refine z_isload ?_; first
   | (refine z_ldw tabOk rfl rfl ?_; first
   | (refine o_loadwm tabOk rfl rfl rfl (by repeat' (first | exact List.mem_cons_self | apply List.mem_cons_of_mem)) (by first | rfl | exact tq_len _ _ | exact cq_len _ | exact tqn_len _ | (simp only [tq_len, cq_len]; done) | rfl) (by decide) ?_)))
   | (refine z_isbi ?_; first
   | refine o_len tabOk rfl rfl (by decide) ?_)
   | refine o_move rfl (by decide) ?_))
  refine Hold.go ?_
  by_cases hl : k < (kd' T a 64).length
  · have hi := kd_lt hl
    have hs := ls_succ T (kd' T a 64) k
    have hel := kc_el (T := T) hl
    generalize hii : (kd' T a 64).getD k 0 = i at *
    repeat' (first
     | ((refine z_isdst 14 ?_; refine o_indexsn tabOk (hne (by omega)) rfl rfl rfl rfl (by omega) (by omega) (by decide) ?_))
     | ((refine z_isdst 15 ?_; refine o_loadsw tabOk (own_rds 3 rfl) rfl rfl rfl (es := [.int .i64 i, .int .u64 (T i).g]) rfl (Nat.succ_pos _) hel (by decide) ?_))
     | ((refine s_sel 2 [1, 0] (by decide) ?_; refine c_free1 ⟨[16, 25], []⟩ [1, 2, 3, 4, 5, 6, 7, 8, 0, 9, 10] (id := 5) mixed (by kernel_rfl) ?_))
     | ((refine z_isdst 16 ?_; refine o_loadwv rfl tabOk rfl rfl rfl List.mem_cons_self rfl (by decide) ?_))
     | ((refine z_isdst 24 ?_; refine o_loadrw tabOk (hrd.sub (List.sublist_append_right [_, _, _, _] _)) rfl rfl rfl (es := [.slice (T i).A (rws (T i).s).length (T i).c]) rfl (Nat.succ_pos _) (tq_set1 T l hi) (by decide) ?_))
     | ((refine z_isdst 25 ?_; refine o_callx1 Try.func33 rfl rfl rfl (with_s (ls T (kd' T a 64) k) (T i).s (ls T (kd' T a 64) (k + 1)) hs _ _ _ _ _ (own_rds 2 rfl) ((hal i hi).sub (List.sublist_append_right [_, _, _, _, _] _))) (by decide) (by decide) fun u _ => ?_))
     | refine z_mono0ww ?_
     | ((refine z_isdst 7 ?_; refine o_alloca (e := 26) (vs := [.int .i64 0, .int .u64 0]) rfl (by kernel_rfl) (by decide) fun g7 => ?_))
     | (refine s_is ?_; first
     | (refine s_isagain ?_; first
     | (exact c_again (u.1, u.2, k + 1) (by dsimp only; omega) (by dsimp only; omega) ⟨rfl, rfl, rfl, rfl, rfl, rfl, trivial⟩ (fun w h => ((h.sel 6 [1, 0, 4, 5, 2, 3] (by decide)).mask [true, true, true, true, false, false]))))
     | (refine s_isw ?_; first
     | refine c_seq ?_
     | refine c_block ?_
     | refine c_region ?_
     | refine c_skip ?_
     | (refine s_iscond ?_; first
     | (refine c_true rfl (by first | with_reducible rfl | with_reducible assumption | ((with_reducible refine decide_eq_true ?_); first | with_reducible rfl | with_reducible assumption | omega)) ?_))))
     | (refine z_isnil ?_; first
     | refine z_list ?_)
     | (refine z_isop ?_; first
     | refine o_nil rfl (by decide) ?_
     | refine o_indexm tabOk rfl rfl rfl rfl (by omega) (by omega) (by decide) ?_
     | (refine z_isbin ?_; first
     | (refine z_isb .add ?_; first
     | refine o_add rfl rfl (by omega) (by omega) (by decide) ?_)
     | (refine z_isb .lss ?_; first
     | refine o_lt rfl rfl (by decide) ?_))
     | (refine z_isload ?_; first
     | (refine z_ld1 tabOk rfl rfl ?_; first
     | refine o_loadm tabOk rfl rfl rfl (by repeat' (first | exact List.mem_cons_self | apply List.mem_cons_of_mem)) (by first | exact tq_g _ _ (by omega) | exact tq_p _ _ (by omega) | exact tq_s _ _ (by omega) | exact tq_last _ _ | exact cq_g _ | exact cq_p _ | exact cq_s _ | rfl | rfl) (by decide) ?_))
     | (refine z_isstore ?_; first
     | refine o_storebv 1 tabOk rfl rfl rfl rfl rfl rfl rfl rfl ?_
     | (refine z_stw rfl ?_; first
     | ((refine z_sti 0 rfl rfl ?_; refine o_storeb0 rfl tabOk rfl rfl rfl (by first | rfl | exact tq_len _ _ | exact cq_len _ | exact tqn_len _ | (simp only [tq_len, cq_len]; done) | rfl) (by first | rfl | exact tq_one _ _ | exact cq_one _ | rfl) (by first | rfl | exact tq_len _ _ | exact cq_len _ | exact tqn_len _ | (simp only [tq_len, cq_len]; done) | rfl) ?_))))
     | refine o_move rfl (by decide) ?_
     | refine o_nil rfl (by decide) ?_
     | refine o_field0 tabOk rfl rfl rfl rfl rfl (by decide) ?_
     | refine o_field tabOk rfl rfl rfl rfl rfl (by decide) ?_))
  · obtain rfl : k = (kd' T a 64).length := by omega
    repeat' (first
     | (refine s_is ?_; first
     | (refine s_isret ?_; first
     | exact f_r1 rfl (res_c tabOk rfl rfl rfl 2 rfl rfl) (D, d) trivial rfl (fun w h => ((h.sel 4 [1, 0, 2, 3] (by decide)).mask [true, false, false, false])))
     | (refine s_isw ?_; first
     | refine c_seq ?_
     | refine c_region ?_
     | refine c_ret ?_
     | refine c_exit ?_
     | (refine s_iscond ?_; first
     | (refine c_false rfl (by first | with_reducible rfl | with_reducible assumption | ((with_reducible refine decide_eq_false ?_); first | with_reducible assumption | omega)) ?_))))
     | (refine z_isnil ?_; first
     | refine z_list ?_)
     | (refine z_isop ?_; first
     | (refine z_isbin ?_; first
     | (refine z_isb .lss ?_; first
     | refine o_lt rfl rfl (by decide) ?_))
     | (refine z_isload ?_; first
     | (refine z_ldw tabOk rfl rfl ?_; first
     | (refine o_loadwm tabOk rfl rfl rfl (by repeat' (first | exact List.mem_cons_self | apply List.mem_cons_of_mem)) (by first | rfl | exact tq_len _ _ | exact cq_len _ | exact tqn_len _ | (simp only [tq_len, cq_len]; done) | rfl) (by decide) ?_)))
     | (refine z_isstore ?_; first
     | (refine z_stw rfl ?_; first
     | ((refine z_sti 2 rfl rfl ?_; refine o_storeb2 rfl tabOk rfl rfl rfl (by first | rfl | exact tq_len _ _ | exact cq_len _ | exact tqn_len _ | (simp only [tq_len, cq_len]; done) | rfl) (by first | rfl | exact tq_one _ _ | exact cq_one _ | rfl) (by first | rfl | exact tq_len _ _ | exact cq_len _ | exact tqn_len _ | (simp only [tq_len, cq_len]; done) | rfl) ?_))))))
theorem lent_nil (a g : Int) : Pf Try.prog 17 [.pointer none, cap a g] (.agg #[.slice none 0 0]) := by
  intro w hw
  refine f_enter Try.func17 rfl Try.ntmps17 rfl hw ?_
  repeat' (first
   | ((refine z_isdst 3 ?_; refine o_boxa (vs := [.int .i64 a, .int .u64 g]) rfl rfl (by decide) fun gc => ?_))
   | ((refine z_isdst 4 ?_; refine o_alloca (e := 31) (vs := [.slice none 0 0]) rfl (by kernel_rfl) (by decide) fun g4 => ?_))
   | ((refine z_isdst 5 ?_; refine o_alloca (e := 31) (vs := [.slice none 0 0]) rfl (by kernel_rfl) (by decide) fun g5 => ?_))
   | ((refine z_isdst 10 ?_; refine o_fn rfl Try.func15 rfl rfl rfl (kids_nil a g) (by decide) ?_))
   | (refine s_is ?_; first
   | (refine s_isret ?_; first
   | exact p_r1 rfl (res_c tabOk rfl rfl rfl 1 rfl rfl))
   | (refine s_isw ?_; first
   | (refine s_isloop ?_; first
   | (refine c_loop (X := Unit) (fun _ => True) (fun _ => [(4, .pointer (some ⟨g4, 0, none⟩)), (5, .pointer (some ⟨g5, 0, none⟩)), (11, .int .i64 0), (12, .int .i64 0)]) (fun _ => [cells g5 31 [.slice none 0 0], cells g4 31 [.slice none 0 0]]) (fun k => 0) () trivial ⟨rfl, rfl, rfl, rfl, trivial⟩ (fun w h => ((h.sel 3 [0, 1, 2] (by decide)).mask [true, true, false])) (fun k hk => ?_)))
   | refine c_seq ?_
   | refine c_block ?_
   | refine c_region ?_
   | refine c_ret ?_
   | refine c_exit ?_
   | (refine s_iscond ?_; first
   | (refine c_false rfl (by first | with_reducible rfl | with_reducible assumption | ((with_reducible refine decide_eq_false ?_); first | with_reducible assumption | omega)) ?_))))
   | (refine z_isnil ?_; first
   | refine z_list ?_)
   | (refine z_isop ?_; first
   | (refine z_isbin ?_; first
   | (refine z_isb .lss ?_; first
   | refine o_lt rfl rfl (by decide) ?_))
   | (refine z_isload ?_; first
   | (refine z_ldw tabOk rfl rfl ?_; first
   | (refine o_loadwm tabOk rfl rfl rfl (by repeat' (first | exact List.mem_cons_self | apply List.mem_cons_of_mem)) (by first | rfl | exact tq_len _ _ | exact cq_len _ | exact tqn_len _ | (simp only [tq_len, cq_len]; done) | rfl) (by decide) ?_)))
   | (refine z_isstore ?_; first
   | (refine z_stw rfl ?_; first
   | ((refine z_sti 1 rfl rfl ?_; refine o_storeb1 rfl tabOk rfl rfl rfl (by first | rfl | exact tq_len _ _ | exact cq_len _ | exact tqn_len _ | (simp only [tq_len, cq_len]; done) | rfl) (by first | rfl | exact tq_one _ _ | exact cq_one _ | rfl) (by first | rfl | exact tq_len _ _ | exact cq_len _ | exact tqn_len _ | (simp only [tq_len, cq_len]; done) | rfl) ?_))))
   | (refine z_isbi ?_; first
   | refine o_len tabOk rfl rfl (by decide) ?_)
   | refine o_move rfl (by decide) ?_))
end Go.Proofs.Ytfegdehgnhomnaa
