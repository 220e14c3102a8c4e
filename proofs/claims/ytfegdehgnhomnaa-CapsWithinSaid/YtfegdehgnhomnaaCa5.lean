/-
Caps: one more is derived, or is not: its numbers are lent.
-/
import Derived.Test.YtfegdehgnhomnaaCa4
namespace Go.Proofs.Ytfegdehgnhomnaa
set_option linter.unusedVariables false
set_option linter.unusedSimpArgs false
open Eng
/-- What the caps derived from one have. -/
def lnt (T : Tq) (a : Int) : Nat → Bool := ls T (kd' T a 64) (kd' T a 64).length
theorem lent_c (T : Tq) (l a g : Int) (b : Nat) (fr : List Chunk) (hrd : Rds fr (some ⟨b, 0, none⟩) (tq T l)) (hal : Al fr T) (h : isN T a g) : Does Try.prog 17 [.pointer (some ⟨b, 0, none⟩), cap a g] fr (fun _ : Option Addr × Nat => True) (fun x => .agg #[.slice x.1 (rws (lnt T a)).length x.2]) (fun x => own x.1 x.2 75 2 (rws (lnt T a)).length (rc (rws (lnt T a))) :: fr) := lent_yes T l a g b fr hrd hal h
theorem within_t (s t : Nat → Bool) (h : (al (layS 1 s t) 1024).length = 0) (A B : Option Addr) (ca cb : Nat) (fr : List Chunk) (hrdA : Rds fr A (rc (rws s))) (hrdB : Rds fr B (rc (rws t))) :
    Does Try.prog 14 [.agg #[.slice A (rws s).length ca], .agg #[.slice B (rws t).length cb]] fr (fun _ : Unit => True) (fun _ => .bool true) (fun _ => fr) := by
  have h2 := within_s s t _ rfl A B ca cb fr hrdA hrdB
  rw [decide_eq_true (by rw [h]; rfl)] at h2
  exact h2
theorem within_f (s t : Nat → Bool) (h : (al (layS 1 s t) 1024).length ≠ 0) (A B : Option Addr) (ca cb : Nat) (fr : List Chunk) (hrdA : Rds fr A (rc (rws s))) (hrdB : Rds fr B (rc (rws t))) :
    Does Try.prog 14 [.agg #[.slice A (rws s).length ca], .agg #[.slice B (rws t).length cb]] fr (fun _ : Unit => True) (fun _ => .bool false) (fun _ => fr) := by
  have h2 := within_s s t _ rfl A B ca cb fr hrdA hrdB
  rw [decide_eq_false (by omega)] at h2
  exact h2
attribute [local irreducible] Eng.Hold Eng.Z Eng.S Eng.cells Eng.old Eng.own rc rws tq tqn Cq.cs emp
attribute [local irreducible] kd' kc lv zt ls layS rvS rvF lnt al
set_option maxHeartbeats 4000000 in
theorem derive_busy (T : Tq) (l a g : Int) (b : Nat) (s r : Nat → Bool) (S : Option Addr) (sc : Nat) (fr : List Chunk) (hal : Al fr T) (hs : Rds fr S (rc (rws s))) (h : isN T a g) (hne : (al s 1024).length ≠ 0) (hin : (al (layS 1 s (T a.toNat).s) 1024).length = 0) (hbo : layS 2 s (lnt T a) = r) (hr : (al r 1024).length ≠ 0) :
    Does Try.prog 23 [.pointer (some ⟨b, 0, none⟩), cap a g, .agg #[.slice S (rws s).length sc]] (cells b 73 (tq T l) :: fr) (fun _ : Unit => True) (fun _ => .tuple #[cap 0 0, .int .i64 24]) (fun _ => cells b 73 (tq T l) :: fr) := by
  intro w hw
  have ha : a.toNat < 64 := by have := h.1; have := h.2.1; omega
  have h0 := h.1
  refine f_enter Try.func23 rfl Try.ntmps23 rfl hw ?_
  repeat' (first
   | ((refine z_isdst 4 ?_; refine o_boxa (vs := [.int .i64 a, .int .u64 g]) rfl rfl (by decide) fun gc => ?_))
   | ((refine z_isdst 5 ?_; refine o_boxa (vs := [.slice S (rws s).length sc]) rfl rfl (by decide) fun gs => ?_))
   | ((refine z_isdst 6 ?_; refine o_alloca (e := 26) (vs := [.int .i64 0, .int .u64 0]) rfl (by kernel_rfl) (by decide) fun g6 => ?_))
   | ((refine z_isdst 14 ?_; refine o_callr rfl Try.func31 rfl rfl rfl (node_yes T l a g b _ (cells_rds 3 rfl) h) (by decide) ?_))
   | ((refine z_isdst 23 ?_; refine o_callr rfl Try.func16 rfl rfl rfl (slen_s s S sc _ (hs.sub (List.sublist_append_right [_, _, _, _] _))) (by decide) ?_))
   | ((refine z_isdst 31 ?_; refine o_loadrw tabOk (cells_rds 3 rfl) rfl rfl rfl (es := [.slice (T a.toNat).A (rws (T a.toNat).s).length (T a.toNat).c]) rfl (Nat.succ_pos _) (tq_set1 T l ha) (by decide) ?_))
   | ((refine z_isdst 32 ?_; refine o_callr rfl Try.func14 rfl rfl rfl (within_t s (T a.toNat).s hin _ _ _ _ _ (hs.sub (List.sublist_append_right [_, _, _, _] _)) ((hal a.toNat ha).sub (List.sublist_append_right [_, _, _, _] _))) (by decide) ?_))
   | ((refine z_isdst 39 ?_; refine o_callx1 Try.func17 rfl rfl rfl (lent_c T l a g b _ (cells_rds 3 rfl) (hal.sub (List.sublist_append_right [_, _, _, _] _)) h) (by decide) (by decide) fun x1 _ => ?_))
   | ((refine z_isdst 40 ?_; refine o_callx1 Try.func41 rfl rfl rfl (both_s s (lnt T a) r hbo _ _ _ _ _ (hs.sub (List.sublist_append_right [_, _, _, _, _] _)) (own_rds 0 rfl)) (by decide) (by decide) fun x2 _ => ?_))
   | ((refine z_isdst 41 ?_; refine o_callx0 Try.func16 rfl rfl rfl (slen_s r _ _ _ (own_rds 0 rfl)) (by decide) (by decide) ?_))
   | refine z_mono0ww ?_
   | (refine s_is ?_; first
   | (refine c_free0 ⟨[39, 40, 41], []⟩ [0, 1, 2, 3, 4, 5, 6, 7] (id := 8) mixed (by kernel_rfl) ?_)
   | (refine s_isret ?_; first
   | exact f_r2 rfl (res_c tabOk rfl rfl rfl 2 rfl rfl) (res_t rfl) () trivial rfl (fun w h => ((h.sel 6 [5, 0, 1, 2, 3, 4] (by decide)).mask [true, false, false, false, false, false])))
   | (refine s_isw ?_; first
   | refine c_seq ?_
   | refine c_block ?_
   | refine c_region ?_
   | refine c_mixed mixed (by kernel_rfl) ?_
   | refine c_ret ?_
   | (refine s_iscond ?_; first
   | (refine c_true rfl (by first | with_reducible rfl | with_reducible assumption | ((with_reducible refine decide_eq_true ?_); first | with_reducible rfl | with_reducible assumption | omega)) ?_)
   | (refine c_false rfl (by first | with_reducible rfl | with_reducible assumption | ((with_reducible refine decide_eq_false ?_); first | with_reducible assumption | omega)) ?_)
   | (refine c_false rfl (by first | (simp only [Bool.not_eq_false', decide_eq_true_eq]; omega) | (with_reducible assumption) | (rw [decide_eq_false] <;> (first | omega | with_reducible rfl)) | (rw [decide_eq_true] <;> (first | omega | with_reducible rfl)) | (simp; done) | (simp; omega)) ?_)))
   | refine x_then_ret ?_
   | refine x_block_ret _ ?_)
   | (refine z_isnil ?_; first
   | refine z_list ?_
   | refine z_mixed ?_)
   | (refine z_isop ?_; first
   | refine o_nil rfl (by decide) ?_
   | refine o_build0 (t := 26) (v := .agg #[.int .i64 0, .int .u64 0]) (fun _ => by kernel_rfl) (by decide) ?_
   | (refine z_isbin ?_; first
   | (refine z_isb .eql ?_; first
   | refine o_eq rfl rfl (by decide) ?_)
   | (refine z_isb .gtr ?_; first
   | refine o_gt rfl rfl (by decide) ?_))
   | (refine z_isload ?_; first
   | (refine z_ldw tabOk rfl rfl ?_; first
   | (refine o_loadwm tabOk rfl rfl rfl (by repeat' (first | exact List.mem_cons_self | apply List.mem_cons_of_mem)) (by first | rfl | exact tq_len _ _ | exact cq_len _ | exact tqn_len _ | (simp only [tq_len, cq_len]; done) | rfl) (by decide) ?_)))
   | (refine z_isstore ?_; first
   | (refine z_stw rfl ?_; first
   | ((refine z_sti 2 rfl rfl ?_; refine o_storeb2 rfl tabOk rfl rfl rfl (by first | rfl | exact tq_len _ _ | exact cq_len _ | exact tqn_len _ | (simp only [tq_len, cq_len]; done) | rfl) (by first | rfl | exact tq_one _ _ | exact cq_one _ | rfl) (by first | rfl | exact tq_len _ _ | exact cq_len _ | exact tqn_len _ | (simp only [tq_len, cq_len]; done) | rfl) ?_))))
   | refine o_move rfl (by decide) ?_
   | refine o_assign rfl (by decide) ?_
   | refine o_nil rfl (by decide) ?_
   | refine o_extract rfl rfl (by decide) ?_
   | refine o_not rfl (by decide) ?_
   | refine o_field tabOk rfl rfl rfl rfl rfl (by decide) ?_))
set_option maxHeartbeats 4000000 in
theorem derive_ok (T : Tq) (l a g : Int) (b : Nat) (s r : Nat → Bool) (S : Option Addr) (sc : Nat) (fr : List Chunk) (hal : Al fr T) (hs : Rds fr S (rc (rws s))) (h : isN T a g) (hne : (al s 1024).length ≠ 0) (hin : (al (layS 1 s (T a.toNat).s) 1024).length = 0) (hbo : layS 2 s (lnt T a) = r) (hr : (al r 1024).length = 0) (q : Nat) (hq : q < 64) (hq0 : (T q).g = 0) (hqj : ∀ j, j < q → (T j).g ≠ 0) (hl0 : 0 ≤ l) (hl1 : l < 18446744073709551615) :
    Does Try.prog 23 [.pointer (some ⟨b, 0, none⟩), cap a g, .agg #[.slice S (rws s).length sc]] (cells b 73 (tq T l) :: fr) (fun _ : Unit => True) (fun _ => .tuple #[cap q (l + 1), .int .i64 0]) (fun _ => cells b 73 (tq (upd T q ⟨l + 1, a, S, sc, s⟩) (l + 1)) :: fr) := by
  intro w hw
  have ha : a.toNat < 64 := by have := h.1; have := h.2.1; omega
  have h0 := h.1
  have hwr : IntKind.u64.wrap (l + 1) = l + 1 := by
    simp [IntKind.wrap, IntKind.bits, IntKind.signed]; omega
  refine f_enter Try.func23 rfl Try.ntmps23 rfl hw ?_
  repeat' (first
   | ((refine z_isdst 4 ?_; refine o_boxa (vs := [.int .i64 a, .int .u64 g]) rfl rfl (by decide) fun gc => ?_))
   | ((refine z_isdst 5 ?_; refine o_boxa (vs := [.slice S (rws s).length sc]) rfl rfl (by decide) fun gs => ?_))
   | ((refine z_isdst 6 ?_; refine o_alloca (e := 26) (vs := [.int .i64 0, .int .u64 0]) rfl (by kernel_rfl) (by decide) fun g6 => ?_))
   | ((refine z_isdst 14 ?_; refine o_callr rfl Try.func31 rfl rfl rfl (node_yes T l a g b _ (cells_rds 3 rfl) h) (by decide) ?_))
   | ((refine z_isdst 23 ?_; refine o_callr rfl Try.func16 rfl rfl rfl (slen_s s S sc _ (hs.sub (List.sublist_append_right [_, _, _, _] _))) (by decide) ?_))
   | ((refine z_isdst 31 ?_; refine o_loadrw tabOk (cells_rds 3 rfl) rfl rfl rfl (es := [.slice (T a.toNat).A (rws (T a.toNat).s).length (T a.toNat).c]) rfl (Nat.succ_pos _) (tq_set1 T l ha) (by decide) ?_))
   | ((refine z_isdst 32 ?_; refine o_callr rfl Try.func14 rfl rfl rfl (within_t s (T a.toNat).s hin _ _ _ _ _ (hs.sub (List.sublist_append_right [_, _, _, _] _)) ((hal a.toNat ha).sub (List.sublist_append_right [_, _, _, _] _))) (by decide) ?_))
   | ((refine z_isdst 39 ?_; refine o_callx1 Try.func17 rfl rfl rfl (lent_c T l a g b _ (cells_rds 3 rfl) (hal.sub (List.sublist_append_right [_, _, _, _] _)) h) (by decide) (by decide) fun x1 _ => ?_))
   | ((refine z_isdst 40 ?_; refine o_callx1 Try.func41 rfl rfl rfl (both_s s (lnt T a) r hbo _ _ _ _ _ (hs.sub (List.sublist_append_right [_, _, _, _, _] _)) (own_rds 0 rfl)) (by decide) (by decide) fun x2 _ => ?_))
   | ((refine z_isdst 41 ?_; refine o_callx0 Try.func16 rfl rfl rfl (slen_s r _ _ _ (own_rds 0 rfl)) (by decide) (by decide) ?_))
   | refine z_mono0ww ?_
   | (refine s_is ?_; first
   | (refine c_free0 ⟨[39, 40, 41], []⟩ [0, 1, 2, 3, 4, 5, 6, 7] (id := 8) mixed (by kernel_rfl) ?_)
   | (refine s_isw ?_; first
   | (refine s_isloop ?_; first
   | ((refine c_loop (X := Nat) (fun k => k ≤ q) (fun k => [(0, .pointer (some ⟨b, 0, none⟩)), (4, .pointer (some ⟨gc, 0, none⟩)), (5, .pointer (some ⟨gs, 0, none⟩)), (6, .pointer (some ⟨g6, 0, none⟩)), (44, .int .i64 k)]) (fun k => cells g6 26 [.int .i64 0, .int .u64 0] :: cells gs 31 [.slice S (rws s).length sc] :: cells gc 26 [.int .i64 a, .int .u64 g] :: cells b 73 (tq T l) :: fr) (fun k => q - k) 0 (Nat.zero_le _) ⟨rfl, rfl, rfl, rfl, rfl, trivial⟩ (fun w h => ((h.sel 6 [2, 3, 4, 5, 0, 1] (by decide)).mask [true, true, true, true, false, false])) (fun k hk => ?_); refine hold ?_)))
   | refine c_seq ?_
   | refine c_block ?_
   | refine c_region ?_
   | refine c_mixed mixed (by kernel_rfl) ?_
   | refine c_skip ?_
   | (refine s_iscond ?_; first
   | (refine c_false rfl (by first | with_reducible rfl | with_reducible assumption | ((with_reducible refine decide_eq_false ?_); first | with_reducible assumption | omega)) ?_)
   | (refine c_false rfl (by first | (simp only [Bool.not_eq_false', decide_eq_true_eq]; omega) | (with_reducible assumption) | (rw [decide_eq_false] <;> (first | omega | with_reducible rfl)) | (rw [decide_eq_true] <;> (first | omega | with_reducible rfl)) | (simp; done) | (simp; omega)) ?_))))
   | (refine z_isnil ?_; first
   | refine z_list ?_
   | refine z_mixed ?_)
   | (refine z_isop ?_; first
   | refine o_nil rfl (by decide) ?_
   | (refine z_isbin ?_; first
   | (refine z_isb .eql ?_; first
   | refine o_eq rfl rfl (by decide) ?_)
   | (refine z_isb .gtr ?_; first
   | refine o_gt rfl rfl (by decide) ?_))
   | (refine z_isload ?_; first
   | (refine z_ldw tabOk rfl rfl ?_; first
   | (refine o_loadwm tabOk rfl rfl rfl (by repeat' (first | exact List.mem_cons_self | apply List.mem_cons_of_mem)) (by first | rfl | exact tq_len _ _ | exact cq_len _ | exact tqn_len _ | (simp only [tq_len, cq_len]; done) | rfl) (by decide) ?_)))
   | refine o_move rfl (by decide) ?_
   | refine o_assign rfl (by decide) ?_
   | refine o_nil rfl (by decide) ?_
   | refine o_extract rfl rfl (by decide) ?_
   | refine o_not rfl (by decide) ?_
   | refine o_field tabOk rfl rfl rfl rfl rfl (by decide) ?_))
  refine Hold.go ?_
  by_cases hkq : k < q
  · have hg := hqj k hkq
    repeat' (first
     | (refine s_is ?_; first
     | (refine s_isagain ?_; first
     | exact c_again (k + 1) (by omega) (by omega) ⟨rfl, rfl, rfl, rfl, rfl, trivial⟩ (fun w h => h))
     | (refine s_isw ?_; first
     | refine c_seq ?_
     | refine c_block ?_
     | refine c_region ?_
     | refine c_skip ?_
     | (refine s_iscond ?_; first
     | (refine c_true rfl (by first | with_reducible rfl | with_reducible assumption | ((with_reducible refine decide_eq_true ?_); first | with_reducible rfl | with_reducible assumption | omega)) ?_)
     | (refine c_false rfl (by first | (simp only [Bool.not_eq_false', decide_eq_true_eq]; omega) | (with_reducible assumption) | (rw [decide_eq_false] <;> (first | omega | with_reducible rfl)) | (rw [decide_eq_true] <;> (first | omega | with_reducible rfl)) | (simp; done) | (simp; omega)) ?_))))
     | (refine z_isnil ?_; first
     | refine z_list ?_)
     | (refine z_isop ?_; first
     | refine o_nil rfl (by decide) ?_
     | refine o_indexm tabOk rfl rfl rfl rfl (by omega) (by omega) (by decide) ?_
     | (refine z_isbin ?_; first
     | (refine z_isb .add ?_; first
     | refine o_add rfl rfl (by omega) (by omega) (by decide) ?_)
     | (refine z_isb .eql ?_; first
     | refine o_eq rfl rfl (by decide) ?_)
     | (refine z_isb .lss ?_; first
     | refine o_lt rfl rfl (by decide) ?_))
     | (refine z_isload ?_; first
     | (refine z_ld1 tabOk rfl rfl ?_; first
     | refine o_loadm tabOk rfl rfl rfl (by repeat' (first | exact List.mem_cons_self | apply List.mem_cons_of_mem)) (by first | exact tq_g _ _ (by omega) | exact tq_p _ _ (by omega) | exact tq_s _ _ (by omega) | exact tq_last _ _ | exact cq_g _ | exact cq_p _ | exact cq_s _ | rfl | rfl) (by decide) ?_))
     | refine o_move rfl (by decide) ?_
     | refine o_assign rfl (by decide) ?_
     | refine o_nil rfl (by decide) ?_
     | refine o_field0 tabOk rfl rfl rfl rfl rfl (by decide) ?_
     | refine o_field tabOk rfl rfl rfl rfl rfl (by decide) ?_))
  · obtain rfl : k = q := by omega
    repeat' (first
     | ((refine z_isdst 59 ?_; refine o_addw rfl rfl (by decide) ?_; rw [hwr]))
     | (refine s_is ?_; first
     | (refine s_isret ?_; first
     | exact f_r2 rfl (res_c tabOk rfl rfl rfl 0 rfl rfl) (res_t rfl) () trivial rfl (fun w h => ((h.sel 4 [3, 0, 1, 2] (by decide)).mask [true, false, false, false])))
     | (refine s_isw ?_; first
     | refine c_seq ?_
     | refine c_block ?_
     | refine c_region ?_
     | refine c_mixed mixed (by kernel_rfl) ?_
     | refine c_skip ?_
     | refine c_ret ?_
     | (refine s_iscond ?_; first
     | (refine c_true rfl (by first | with_reducible rfl | with_reducible assumption | ((with_reducible refine decide_eq_true ?_); first | with_reducible rfl | with_reducible assumption | omega)) ?_)
     | (refine c_true rfl (by first | (simp only [Bool.not_eq_true', decide_eq_false_iff_not]; omega) | (with_reducible assumption) | (rw [decide_eq_false] <;> (first | omega | with_reducible rfl)) | (rw [decide_eq_true] <;> (first | omega | with_reducible rfl)) | (simp; done) | (simp; omega)) ?_)))
     | refine x_then_ret ?_
     | refine x_block_ret _ ?_)
     | (refine z_isnil ?_; first
     | refine z_list ?_
     | refine z_mixed ?_)
     | (refine z_isop ?_; first
     | (refine o_buildf (t := 70) (zs := [.int .u64 0, .int .i64 0, .slice none 0 0]) (vs := [.int .u64 (l + 1), .int .i64 a, .slice S (rws s).length sc]) tabOk rfl rfl (by kernel_rfl) rfl ⟨_, _, rfl, rfl, Nat.le_of_ble_eq_true rfl, _, _, rfl, rfl, Nat.le_of_ble_eq_true rfl, _, _, rfl, rfl, Nat.le_of_ble_eq_true rfl, rfl⟩ (by decide) ?_)
     | (refine o_buildf (t := 26) (zs := [.int .i64 0, .int .u64 0]) (vs := [.int .i64 k, .int .u64 (l + 1)]) tabOk rfl rfl (by kernel_rfl) rfl ⟨_, _, rfl, rfl, Nat.le_of_ble_eq_true rfl, _, _, rfl, rfl, Nat.le_of_ble_eq_true rfl, rfl⟩ (by decide) ?_)
     | refine o_nil rfl (by decide) ?_
     | refine o_indexm tabOk rfl rfl rfl rfl (by omega) (by omega) (by decide) ?_
     | (refine z_isbin ?_; first
     | (refine z_isb .eql ?_; first
     | refine o_eq rfl rfl (by decide) ?_)
     | (refine z_isb .lss ?_; first
     | refine o_lt rfl rfl (by decide) ?_))
     | (refine z_isload ?_; first
     | (refine z_ld1 tabOk rfl rfl ?_; first
     | refine o_loadm tabOk rfl rfl rfl (by repeat' (first | exact List.mem_cons_self | apply List.mem_cons_of_mem)) (by first | exact tq_g _ _ (by omega) | exact tq_p _ _ (by omega) | exact tq_s _ _ (by omega) | exact tq_last _ _ | exact cq_g _ | exact cq_p _ | exact cq_s _ | rfl | rfl) (by decide) ?_)
     | (refine z_ldw tabOk rfl rfl ?_; first
     | (refine o_loadwm tabOk rfl rfl rfl (by repeat' (first | exact List.mem_cons_self | apply List.mem_cons_of_mem)) (by first | rfl | exact tq_len _ _ | exact cq_len _ | exact tqn_len _ | (simp only [tq_len, cq_len]; done) | rfl) (by decide) ?_)))
     | (refine z_isstore ?_; first
     | (refine o_storew_at rfl 3 tabOk rfl rfl rfl rfl rfl rfl (by rw [tq_len]; show ((k : Nat) : Int).toNat * 3 + 3 ≤ 193; omega) (tq_putx T (l + 1) (i := k) hq _ _ _ _ _) ?_)
     | (refine z_stw rfl ?_; first
     | ((refine z_sti 0 rfl rfl ?_; refine o_storeb0 rfl tabOk rfl rfl rfl (by first | rfl | exact tq_len _ _ | exact cq_len _ | exact tqn_len _ | (simp only [tq_len, cq_len]; done) | rfl) (by first | rfl | exact tq_one _ _ | exact cq_one _ | rfl) (by first | rfl | exact tq_len _ _ | exact cq_len _ | exact tqn_len _ | (simp only [tq_len, cq_len]; done) | rfl) ?_)))
     | (refine z_st1 rfl rfl ?_; first
     | ((refine z_sti 3 rfl rfl ?_; refine o_store3 rfl tabOk rfl rfl rfl rfl rfl (by first | exact tq_g _ _ (by omega) | exact tq_p _ _ (by omega) | exact tq_s _ _ (by omega) | exact tq_last _ _ | exact cq_g _ | exact cq_p _ | exact cq_s _ | rfl | rfl) (by first | exact tq_set_last _ _ _ | rfl | rfl) ?_))))
     | refine o_move rfl (by decide) ?_
     | refine o_assign rfl (by decide) ?_
     | refine o_nil rfl (by decide) ?_
     | refine o_field0 tabOk rfl rfl rfl rfl rfl (by decide) ?_
     | refine o_field tabOk rfl rfl rfl rfl rfl (by decide) ?_))
set_option maxHeartbeats 4000000 in
theorem derive_full (T : Tq) (l a g : Int) (b : Nat) (s r : Nat → Bool) (S : Option Addr) (sc : Nat) (fr : List Chunk) (hal : Al fr T) (hs : Rds fr S (rc (rws s))) (h : isN T a g) (hne : (al s 1024).length ≠ 0) (hin : (al (layS 1 s (T a.toNat).s) 1024).length = 0) (hbo : layS 2 s (lnt T a) = r) (hr : (al r 1024).length = 0) (hqj : ∀ j, j < 64 → (T j).g ≠ 0) :
    Does Try.prog 23 [.pointer (some ⟨b, 0, none⟩), cap a g, .agg #[.slice S (rws s).length sc]] (cells b 73 (tq T l) :: fr) (fun _ : Unit => True) (fun _ => .tuple #[cap 0 0, .int .i64 5]) (fun _ => cells b 73 (tq T l) :: fr) := by
  intro w hw
  have ha : a.toNat < 64 := by have := h.1; have := h.2.1; omega
  have h0 := h.1
  refine f_enter Try.func23 rfl Try.ntmps23 rfl hw ?_
  repeat' (first
   | ((refine z_isdst 4 ?_; refine o_boxa (vs := [.int .i64 a, .int .u64 g]) rfl rfl (by decide) fun gc => ?_))
   | ((refine z_isdst 5 ?_; refine o_boxa (vs := [.slice S (rws s).length sc]) rfl rfl (by decide) fun gs => ?_))
   | ((refine z_isdst 6 ?_; refine o_alloca (e := 26) (vs := [.int .i64 0, .int .u64 0]) rfl (by kernel_rfl) (by decide) fun g6 => ?_))
   | ((refine z_isdst 14 ?_; refine o_callr rfl Try.func31 rfl rfl rfl (node_yes T l a g b _ (cells_rds 3 rfl) h) (by decide) ?_))
   | ((refine z_isdst 23 ?_; refine o_callr rfl Try.func16 rfl rfl rfl (slen_s s S sc _ (hs.sub (List.sublist_append_right [_, _, _, _] _))) (by decide) ?_))
   | ((refine z_isdst 31 ?_; refine o_loadrw tabOk (cells_rds 3 rfl) rfl rfl rfl (es := [.slice (T a.toNat).A (rws (T a.toNat).s).length (T a.toNat).c]) rfl (Nat.succ_pos _) (tq_set1 T l ha) (by decide) ?_))
   | ((refine z_isdst 32 ?_; refine o_callr rfl Try.func14 rfl rfl rfl (within_t s (T a.toNat).s hin _ _ _ _ _ (hs.sub (List.sublist_append_right [_, _, _, _] _)) ((hal a.toNat ha).sub (List.sublist_append_right [_, _, _, _] _))) (by decide) ?_))
   | ((refine z_isdst 39 ?_; refine o_callx1 Try.func17 rfl rfl rfl (lent_c T l a g b _ (cells_rds 3 rfl) (hal.sub (List.sublist_append_right [_, _, _, _] _)) h) (by decide) (by decide) fun x1 _ => ?_))
   | ((refine z_isdst 40 ?_; refine o_callx1 Try.func41 rfl rfl rfl (both_s s (lnt T a) r hbo _ _ _ _ _ (hs.sub (List.sublist_append_right [_, _, _, _, _] _)) (own_rds 0 rfl)) (by decide) (by decide) fun x2 _ => ?_))
   | ((refine z_isdst 41 ?_; refine o_callx0 Try.func16 rfl rfl rfl (slen_s r _ _ _ (own_rds 0 rfl)) (by decide) (by decide) ?_))
   | refine z_mono0ww ?_
   | (refine s_is ?_; first
   | (refine c_free0 ⟨[39, 40, 41], []⟩ [0, 1, 2, 3, 4, 5, 6, 7] (id := 8) mixed (by kernel_rfl) ?_)
   | (refine s_isw ?_; first
   | (refine s_isloop ?_; first
   | ((refine c_loop (X := Nat) (fun k => k ≤ 64) (fun k => [(0, .pointer (some ⟨b, 0, none⟩)), (4, .pointer (some ⟨gc, 0, none⟩)), (5, .pointer (some ⟨gs, 0, none⟩)), (6, .pointer (some ⟨g6, 0, none⟩)), (44, .int .i64 k)]) (fun k => cells g6 26 [.int .i64 0, .int .u64 0] :: cells gs 31 [.slice S (rws s).length sc] :: cells gc 26 [.int .i64 a, .int .u64 g] :: cells b 73 (tq T l) :: fr) (fun k => 64 - k) 0 (Nat.zero_le _) ⟨rfl, rfl, rfl, rfl, rfl, trivial⟩ (fun w h => ((h.sel 6 [2, 3, 4, 5, 0, 1] (by decide)).mask [true, true, true, true, false, false])) (fun k hk => ?_); refine hold ?_)))
   | refine c_seq ?_
   | refine c_block ?_
   | refine c_region ?_
   | refine c_mixed mixed (by kernel_rfl) ?_
   | refine c_skip ?_
   | (refine s_iscond ?_; first
   | (refine c_false rfl (by first | with_reducible rfl | with_reducible assumption | ((with_reducible refine decide_eq_false ?_); first | with_reducible assumption | omega)) ?_)
   | (refine c_false rfl (by first | (simp only [Bool.not_eq_false', decide_eq_true_eq]; omega) | (with_reducible assumption) | (rw [decide_eq_false] <;> (first | omega | with_reducible rfl)) | (rw [decide_eq_true] <;> (first | omega | with_reducible rfl)) | (simp; done) | (simp; omega)) ?_))))
   | (refine z_isnil ?_; first
   | refine z_list ?_
   | refine z_mixed ?_)
   | (refine z_isop ?_; first
   | refine o_nil rfl (by decide) ?_
   | (refine z_isbin ?_; first
   | (refine z_isb .eql ?_; first
   | refine o_eq rfl rfl (by decide) ?_)
   | (refine z_isb .gtr ?_; first
   | refine o_gt rfl rfl (by decide) ?_))
   | (refine z_isload ?_; first
   | (refine z_ldw tabOk rfl rfl ?_; first
   | (refine o_loadwm tabOk rfl rfl rfl (by repeat' (first | exact List.mem_cons_self | apply List.mem_cons_of_mem)) (by first | rfl | exact tq_len _ _ | exact cq_len _ | exact tqn_len _ | (simp only [tq_len, cq_len]; done) | rfl) (by decide) ?_)))
   | refine o_move rfl (by decide) ?_
   | refine o_assign rfl (by decide) ?_
   | refine o_nil rfl (by decide) ?_
   | refine o_extract rfl rfl (by decide) ?_
   | refine o_not rfl (by decide) ?_
   | refine o_field tabOk rfl rfl rfl rfl rfl (by decide) ?_))
  refine Hold.go ?_
  by_cases hkq : k < 64
  · have hg := hqj k hkq
    repeat' (first
     | (refine s_is ?_; first
     | (refine s_isagain ?_; first
     | exact c_again (k + 1) (by omega) (by omega) ⟨rfl, rfl, rfl, rfl, rfl, trivial⟩ (fun w h => h))
     | (refine s_isw ?_; first
     | refine c_seq ?_
     | refine c_block ?_
     | refine c_region ?_
     | refine c_skip ?_
     | (refine s_iscond ?_; first
     | (refine c_true rfl (by first | with_reducible rfl | with_reducible assumption | ((with_reducible refine decide_eq_true ?_); first | with_reducible rfl | with_reducible assumption | omega)) ?_)
     | (refine c_false rfl (by first | (simp only [Bool.not_eq_false', decide_eq_true_eq]; omega) | (with_reducible assumption) | (rw [decide_eq_false] <;> (first | omega | with_reducible rfl)) | (rw [decide_eq_true] <;> (first | omega | with_reducible rfl)) | (simp; done) | (simp; omega)) ?_))))
     | (refine z_isnil ?_; first
     | refine z_list ?_)
     | (refine z_isop ?_; first
     | refine o_nil rfl (by decide) ?_
     | refine o_indexm tabOk rfl rfl rfl rfl (by omega) (by omega) (by decide) ?_
     | (refine z_isbin ?_; first
     | (refine z_isb .add ?_; first
     | refine o_add rfl rfl (by omega) (by omega) (by decide) ?_)
     | (refine z_isb .eql ?_; first
     | refine o_eq rfl rfl (by decide) ?_)
     | (refine z_isb .lss ?_; first
     | refine o_lt rfl rfl (by decide) ?_))
     | (refine z_isload ?_; first
     | (refine z_ld1 tabOk rfl rfl ?_; first
     | refine o_loadm tabOk rfl rfl rfl (by repeat' (first | exact List.mem_cons_self | apply List.mem_cons_of_mem)) (by first | exact tq_g _ _ (by omega) | exact tq_p _ _ (by omega) | exact tq_s _ _ (by omega) | exact tq_last _ _ | exact cq_g _ | exact cq_p _ | exact cq_s _ | rfl | rfl) (by decide) ?_))
     | refine o_move rfl (by decide) ?_
     | refine o_assign rfl (by decide) ?_
     | refine o_nil rfl (by decide) ?_
     | refine o_field0 tabOk rfl rfl rfl rfl rfl (by decide) ?_
     | refine o_field tabOk rfl rfl rfl rfl rfl (by decide) ?_))
  · obtain rfl : k = 64 := by omega
    repeat' (first
     | (refine s_is ?_; first
     | (refine s_isret ?_; first
     | exact f_r2 rfl (res_c tabOk rfl rfl rfl 0 rfl rfl) (res_t rfl) () trivial rfl (fun w h => ((h.sel 4 [3, 0, 1, 2] (by decide)).mask [true, false, false, false])))
     | (refine s_isw ?_; first
     | refine c_seq ?_
     | refine c_region ?_
     | refine c_ret ?_
     | refine c_exit ?_
     | (refine s_iscond ?_; first
     | (refine c_false rfl (by first | with_reducible rfl | with_reducible assumption | ((with_reducible refine decide_eq_false ?_); first | with_reducible assumption | omega)) ?_))))
     | (refine z_isnil ?_; first
     | refine z_list ?_)
     | (refine z_isop ?_; first
     | refine o_build0 (t := 26) (v := .agg #[.int .i64 0, .int .u64 0]) (fun _ => by kernel_rfl) (by decide) ?_
     | (refine z_isbin ?_; first
     | (refine z_isb .lss ?_; first
     | refine o_lt rfl rfl (by decide) ?_))
     | (refine z_isstore ?_; first
     | (refine z_stw rfl ?_; first
     | ((refine z_sti 0 rfl rfl ?_; refine o_storeb0 rfl tabOk rfl rfl rfl (by first | rfl | exact tq_len _ _ | exact cq_len _ | exact tqn_len _ | (simp only [tq_len, cq_len]; done) | rfl) (by first | rfl | exact tq_one _ _ | exact cq_one _ | rfl) (by first | rfl | exact tq_len _ _ | exact cq_len _ | exact tqn_len _ | (simp only [tq_len, cq_len]; done) | rfl) ?_))))
     | refine o_assign rfl (by decide) ?_))
theorem derive_no (T : Tq) (l a g : Int) (b : Nat) (s : Nat → Bool) (S : Option Addr) (sc : Nat) (fr : List Chunk) (h : ¬ isN T a g) :
    Does Try.prog 23 [.pointer (some ⟨b, 0, none⟩), cap a g, .agg #[.slice S (rws s).length sc]] (cells b 73 (tq T l) :: fr) (fun _ : Unit => True) (fun _ => .tuple #[cap 0 0, .int .i64 3]) (fun _ => cells b 73 (tq T l) :: fr) := by
  intro w hw
  refine f_enter Try.func23 rfl Try.ntmps23 rfl hw ?_
  repeat' (first
   | ((refine z_isdst 14 ?_; refine o_callr rfl Try.func31 rfl rfl rfl (node_no T l a g b _ (cells_rds 3 rfl) h) (by decide) ?_))
   | ((refine z_isdst 4 ?_; refine o_boxa (vs := [.int .i64 a, .int .u64 g]) rfl rfl (by decide) fun gc => ?_))
   | ((refine z_isdst 5 ?_; refine o_boxa (vs := [.slice S (rws s).length sc]) rfl rfl (by decide) fun gs => ?_))
   | ((refine z_isdst 6 ?_; refine o_alloca (e := 26) (vs := [.int .i64 0, .int .u64 0]) rfl (by kernel_rfl) (by decide) fun g6 => ?_))
   | (refine s_is ?_; first
   | (refine s_isret ?_; first
   | exact f_r2 rfl (res_c tabOk rfl rfl rfl 0 rfl rfl) (res_t rfl) () trivial rfl (fun w h => ((h.sel 4 [3, 0, 1, 2] (by decide)).mask [true, false, false, false])))
   | (refine s_isw ?_; first
   | refine c_seq ?_
   | refine c_block ?_
   | refine c_region ?_
   | refine c_ret ?_
   | (refine s_iscond ?_; first
   | (refine c_true rfl (by first | (simp only [Bool.not_eq_true', decide_eq_false_iff_not]; omega) | (with_reducible assumption) | (rw [decide_eq_false] <;> (first | omega | with_reducible rfl)) | (rw [decide_eq_true] <;> (first | omega | with_reducible rfl)) | (simp; done) | (simp; omega)) ?_)))
   | refine x_then_ret ?_
   | refine x_block_ret _ ?_)
   | (refine z_isnil ?_; first
   | refine z_list ?_)
   | (refine z_isop ?_; first
   | refine o_build0 (t := 26) (v := .agg #[.int .i64 0, .int .u64 0]) (fun _ => by kernel_rfl) (by decide) ?_
   | (refine z_isload ?_; first
   | (refine z_ldw tabOk rfl rfl ?_; first
   | (refine o_loadwm tabOk rfl rfl rfl (by repeat' (first | exact List.mem_cons_self | apply List.mem_cons_of_mem)) (by first | rfl | exact tq_len _ _ | exact cq_len _ | exact tqn_len _ | (simp only [tq_len, cq_len]; done) | rfl) (by decide) ?_)))
   | (refine z_isstore ?_; first
   | (refine z_stw rfl ?_; first
   | ((refine z_sti 0 rfl rfl ?_; refine o_storeb0 rfl tabOk rfl rfl rfl (by first | rfl | exact tq_len _ _ | exact cq_len _ | exact tqn_len _ | (simp only [tq_len, cq_len]; done) | rfl) (by first | rfl | exact tq_one _ _ | exact cq_one _ | rfl) (by first | rfl | exact tq_len _ _ | exact cq_len _ | exact tqn_len _ | (simp only [tq_len, cq_len]; done) | rfl) ?_))))
   | refine o_move rfl (by decide) ?_
   | refine o_assign rfl (by decide) ?_
   | refine o_extract rfl rfl (by decide) ?_
   | refine o_not rfl (by decide) ?_))
theorem derive_arg (T : Tq) (l a g : Int) (b : Nat) (s : Nat → Bool) (S : Option Addr) (sc : Nat) (fr : List Chunk) (hs : Rds fr S (rc (rws s))) (h : isN T a g) (hne : (al s 1024).length = 0) :
    Does Try.prog 23 [.pointer (some ⟨b, 0, none⟩), cap a g, .agg #[.slice S (rws s).length sc]] (cells b 73 (tq T l) :: fr) (fun _ : Unit => True) (fun _ => .tuple #[cap 0 0, .int .i64 1]) (fun _ => cells b 73 (tq T l) :: fr) := by
  intro w hw
  refine f_enter Try.func23 rfl Try.ntmps23 rfl hw ?_
  repeat' (first
   | ((refine z_isdst 14 ?_; refine o_callr rfl Try.func31 rfl rfl rfl (node_yes T l a g b _ (cells_rds 3 rfl) h) (by decide) ?_))
   | ((refine z_isdst 23 ?_; refine o_callr rfl Try.func16 rfl rfl rfl (slen_s s S sc _ (hs.sub (List.sublist_append_right [_, _, _, _] _))) (by decide) ?_))
   | ((refine z_isdst 4 ?_; refine o_boxa (vs := [.int .i64 a, .int .u64 g]) rfl rfl (by decide) fun gc => ?_))
   | ((refine z_isdst 5 ?_; refine o_boxa (vs := [.slice S (rws s).length sc]) rfl rfl (by decide) fun gs => ?_))
   | ((refine z_isdst 6 ?_; refine o_alloca (e := 26) (vs := [.int .i64 0, .int .u64 0]) rfl (by kernel_rfl) (by decide) fun g6 => ?_))
   | (refine s_is ?_; first
   | (refine s_isret ?_; first
   | exact f_r2 rfl (res_c tabOk rfl rfl rfl 0 rfl rfl) (res_t rfl) () trivial rfl (fun w h => ((h.sel 4 [3, 0, 1, 2] (by decide)).mask [true, false, false, false])))
   | (refine s_isw ?_; first
   | refine c_seq ?_
   | refine c_block ?_
   | refine c_region ?_
   | refine c_ret ?_
   | (refine s_iscond ?_; first
   | (refine c_true rfl (by first | with_reducible rfl | with_reducible assumption | ((with_reducible refine decide_eq_true ?_); first | with_reducible rfl | with_reducible assumption | omega)) ?_)
   | (refine c_false rfl (by first | (simp only [Bool.not_eq_false', decide_eq_true_eq]; omega) | (with_reducible assumption) | (rw [decide_eq_false] <;> (first | omega | with_reducible rfl)) | (rw [decide_eq_true] <;> (first | omega | with_reducible rfl)) | (simp; done) | (simp; omega)) ?_)))
   | refine x_then_ret ?_
   | refine x_block_ret _ ?_)
   | (refine z_isnil ?_; first
   | refine z_list ?_)
   | (refine z_isop ?_; first
   | refine o_build0 (t := 26) (v := .agg #[.int .i64 0, .int .u64 0]) (fun _ => by kernel_rfl) (by decide) ?_
   | (refine z_isbin ?_; first
   | (refine z_isb .eql ?_; first
   | refine o_eq rfl rfl (by decide) ?_))
   | (refine z_isload ?_; first
   | (refine z_ldw tabOk rfl rfl ?_; first
   | (refine o_loadwm tabOk rfl rfl rfl (by repeat' (first | exact List.mem_cons_self | apply List.mem_cons_of_mem)) (by first | rfl | exact tq_len _ _ | exact cq_len _ | exact tqn_len _ | (simp only [tq_len, cq_len]; done) | rfl) (by decide) ?_)))
   | (refine z_isstore ?_; first
   | (refine z_stw rfl ?_; first
   | ((refine z_sti 0 rfl rfl ?_; refine o_storeb0 rfl tabOk rfl rfl rfl (by first | rfl | exact tq_len _ _ | exact cq_len _ | exact tqn_len _ | (simp only [tq_len, cq_len]; done) | rfl) (by first | rfl | exact tq_one _ _ | exact cq_one _ | rfl) (by first | rfl | exact tq_len _ _ | exact cq_len _ | exact tqn_len _ | (simp only [tq_len, cq_len]; done) | rfl) ?_))))
   | refine o_move rfl (by decide) ?_
   | refine o_assign rfl (by decide) ?_
   | refine o_extract rfl rfl (by decide) ?_
   | refine o_not rfl (by decide) ?_))
theorem derive_perm (T : Tq) (l a g : Int) (b : Nat) (s : Nat → Bool) (S : Option Addr) (sc : Nat) (fr : List Chunk) (hal : Al fr T) (hs : Rds fr S (rc (rws s))) (h : isN T a g) (hne : (al s 1024).length ≠ 0) (hin : (al (layS 1 s (T a.toNat).s) 1024).length ≠ 0) :
    Does Try.prog 23 [.pointer (some ⟨b, 0, none⟩), cap a g, .agg #[.slice S (rws s).length sc]] (cells b 73 (tq T l) :: fr) (fun _ : Unit => True) (fun _ => .tuple #[cap 0 0, .int .i64 2]) (fun _ => cells b 73 (tq T l) :: fr) := by
  intro w hw
  have ha : a.toNat < 64 := by have := h.1; have := h.2.1; omega
  have h0 := h.1
  refine f_enter Try.func23 rfl Try.ntmps23 rfl hw ?_
  repeat' (first
   | ((refine z_isdst 14 ?_; refine o_callr rfl Try.func31 rfl rfl rfl (node_yes T l a g b _ (cells_rds 3 rfl) h) (by decide) ?_))
   | ((refine z_isdst 23 ?_; refine o_callr rfl Try.func16 rfl rfl rfl (slen_s s S sc _ (hs.sub (List.sublist_append_right [_, _, _, _] _))) (by decide) ?_))
   | ((refine z_isdst 31 ?_; refine o_loadrw tabOk (cells_rds 3 rfl) rfl rfl rfl (es := [.slice (T a.toNat).A (rws (T a.toNat).s).length (T a.toNat).c]) rfl (Nat.succ_pos _) (tq_set1 T l ha) (by decide) ?_))
   | ((refine z_isdst 32 ?_; refine o_callr rfl Try.func14 rfl rfl rfl (within_f s (T a.toNat).s hin _ _ _ _ _ (hs.sub (List.sublist_append_right [_, _, _, _] _)) ((hal a.toNat ha).sub (List.sublist_append_right [_, _, _, _] _))) (by decide) ?_))
   | ((refine z_isdst 4 ?_; refine o_boxa (vs := [.int .i64 a, .int .u64 g]) rfl rfl (by decide) fun gc => ?_))
   | ((refine z_isdst 5 ?_; refine o_boxa (vs := [.slice S (rws s).length sc]) rfl rfl (by decide) fun gs => ?_))
   | ((refine z_isdst 6 ?_; refine o_alloca (e := 26) (vs := [.int .i64 0, .int .u64 0]) rfl (by kernel_rfl) (by decide) fun g6 => ?_))
   | (refine s_is ?_; first
   | (refine s_isret ?_; first
   | exact f_r2 rfl (res_c tabOk rfl rfl rfl 0 rfl rfl) (res_t rfl) () trivial rfl (fun w h => ((h.sel 4 [3, 0, 1, 2] (by decide)).mask [true, false, false, false])))
   | (refine s_isw ?_; first
   | refine c_seq ?_
   | refine c_block ?_
   | refine c_region ?_
   | refine c_mixed mixed (by kernel_rfl) ?_
   | refine c_ret ?_
   | (refine s_iscond ?_; first
   | (refine c_false rfl (by first | with_reducible rfl | with_reducible assumption | ((with_reducible refine decide_eq_false ?_); first | with_reducible assumption | omega)) ?_)
   | (refine c_true rfl (by first | (simp only [Bool.not_eq_true', decide_eq_false_iff_not]; omega) | (with_reducible assumption) | (rw [decide_eq_false] <;> (first | omega | with_reducible rfl)) | (rw [decide_eq_true] <;> (first | omega | with_reducible rfl)) | (simp; done) | (simp; omega)) ?_)
   | (refine c_false rfl (by first | (simp only [Bool.not_eq_false', decide_eq_true_eq]; omega) | (with_reducible assumption) | (rw [decide_eq_false] <;> (first | omega | with_reducible rfl)) | (rw [decide_eq_true] <;> (first | omega | with_reducible rfl)) | (simp; done) | (simp; omega)) ?_)))
   | refine x_then_ret ?_
   | refine x_block_ret _ ?_)
   | (refine z_isnil ?_; first
   | refine z_list ?_
   | refine z_mixed ?_)
   | (refine z_isop ?_; first
   | refine o_nil rfl (by decide) ?_
   | refine o_build0 (t := 26) (v := .agg #[.int .i64 0, .int .u64 0]) (fun _ => by kernel_rfl) (by decide) ?_
   | (refine z_isbin ?_; first
   | (refine z_isb .eql ?_; first
   | refine o_eq rfl rfl (by decide) ?_))
   | (refine z_isload ?_; first
   | (refine z_ldw tabOk rfl rfl ?_; first
   | (refine o_loadwm tabOk rfl rfl rfl (by repeat' (first | exact List.mem_cons_self | apply List.mem_cons_of_mem)) (by first | rfl | exact tq_len _ _ | exact cq_len _ | exact tqn_len _ | (simp only [tq_len, cq_len]; done) | rfl) (by decide) ?_)))
   | (refine z_isstore ?_; first
   | (refine z_stw rfl ?_; first
   | ((refine z_sti 0 rfl rfl ?_; refine o_storeb0 rfl tabOk rfl rfl rfl (by first | rfl | exact tq_len _ _ | exact cq_len _ | exact tqn_len _ | (simp only [tq_len, cq_len]; done) | rfl) (by first | rfl | exact tq_one _ _ | exact cq_one _ | rfl) (by first | rfl | exact tq_len _ _ | exact cq_len _ | exact tqn_len _ | (simp only [tq_len, cq_len]; done) | rfl) ?_))))
   | refine o_move rfl (by decide) ?_
   | refine o_assign rfl (by decide) ?_
   | refine o_nil rfl (by decide) ?_
   | refine o_extract rfl rfl (by decide) ?_
   | refine o_not rfl (by decide) ?_
   | refine o_field tabOk rfl rfl rfl rfl rfl (by decide) ?_))
end Go.Proofs.Ytfegdehgnhomnaa
