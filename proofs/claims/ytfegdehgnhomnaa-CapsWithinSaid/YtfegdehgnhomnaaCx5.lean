/-
Caps: Over.
-/
import Derived.Test.YtfegdehgnhomnaaCt3
import Derived.Test.YtfegdehgnhomnaaCx2
namespace Go.Proofs.Ytfegdehgnhomnaa
set_option linter.unusedVariables false
set_option linter.unusedSimpArgs false
open Eng
theorem has_w (s : Nat → Bool) (A : Option Addr) (c : Nat) (n : Int) (v : Bool) (h : inS s n = v) (fr : List Chunk) (hrd : Rds fr A (rc (rws s))) : Does Try.prog 21 [.agg #[.slice A (rws s).length c], .int .i64 n] fr (fun _ : Unit => True) (fun _ => .bool v) (fun _ => fr) := by
  have := has_s s A c n fr hrd
  rw [h] at this
  exact this
theorem kids_sm {T Tp : Tq} (hs : Sm T Tp) (l : Int) {i : Nat} {g : Int} (b : Nat) (fr : List Chunk) (hrd : Rds fr (some ⟨b, 0, none⟩) (tq Tp l)) (h : isN T i g) : Does Try.prog 15 [.pointer (some ⟨b, 0, none⟩), cap i g] fr (fun _ : Option Addr × Nat => True) (fun x => .slice x.1 (kd' T i 64).length x.2) (fun x => own x.1 x.2 26 2 (kd' T i 64).length (kc T (kd' T i 64)) :: fr) := by
  have h2 := kids_yes Tp l i g b fr hrd (hs.isN h)
  rw [← hs.kd, ← hs.kc] at h2
  exact h2
/-- The one among the first k of some that has a number, if there is one. -/
def Nx (T : Tq) (q : Int) (a : Nat) (K : List Nat) (j : Nat) (na : Nat) (ng : Int) : Prop := (ng = 0 ∧ na = 0 ∧ ∀ i, i < j → inS (T (K.getD i 0)).s q = false) ∨ (na < 64 ∧ (T na).g = ng ∧ ng ≠ 0 ∧ (T na).p = (a : Int) ∧ inS (T na).s q = true)
theorem nx_zero (T : Tq) (q : Int) (a : Nat) (K : List Nat) : Nx T q a K 0 0 0 := .inl ⟨rfl, rfl, fun i h => absurd h (Nat.not_lt_zero _)⟩
theorem nx_no {T : Tq} {q : Int} {a : Nat} {K : List Nat} {j na : Nat} {ng : Int} (h : Nx T q a K j na ng) (hj : inS (T (K.getD j 0)).s q = false) : Nx T q a K (j + 1) na ng := by
  rcases h with ⟨h1, h2, h3⟩ | h
  · refine .inl ⟨h1, h2, fun i hi => ?_⟩
    by_cases e : i = j
    · subst e; exact hj
    · exact h3 i (by omega)
  · exact .inr h
theorem nx_yes {T : Tq} {q : Int} {a : Nat} {K : List Nat} {j : Nat} (h0 : K.getD j 0 < 64) (h1 : (T (K.getD j 0)).g ≠ 0) (h2 : (T (K.getD j 0)).p = (a : Int)) (hj : inS (T (K.getD j 0)).s q = true) : Nx T q a K (j + 1) (K.getD j 0) (T (K.getD j 0)).g := .inr ⟨h0, rfl, h1, h2, hj⟩
theorem nx_none {T : Tq} {q : Int} {a na : Nat} (h : Nx T q a (kd' T a 64) (kd' T a 64).length na 0) : ∀ x, x < 64 → (T x).g ≠ 0 → (T x).p = (a : Int) → inS (T x).s q = false := by
  intro x hx hg hp
  rcases h with ⟨_, _, h3⟩ | ⟨_, _, h3, _⟩
  · have hm := (kd_mem (T := T) (a := (a : Int)) (i := x) 64).2 ⟨hx, hg, hp⟩
    obtain ⟨i, hi, e⟩ := List.mem_iff_getElem.1 hm
    have := h3 i hi
    rw [getD_at hi, e] at this
    exact this
  · exact absurd rfl h3
attribute [local irreducible] Eng.Hold Eng.Z Eng.S Eng.cells Eng.old Eng.own rc rws tq tqn Cq.cs emp dcs dnn dt bs layS al undF isN dl
attribute [local irreducible] kd' kc lv zt ls lnt inS
set_option maxHeartbeats 8000000 in
theorem over_c (T : Tq) (l : Int) (hT : WF T l) (q : Int) (b : Nat) (Tp : Tq) (fr : List Chunk) (hs : Sm T Tp) (hal : Al fr Tp) (hrd : Rds fr (some ⟨b, 0, none⟩) (tq Tp l)) :
    Does Try.prog 20 [.pointer (some ⟨b, 0, none⟩), .int .i64 q] fr (fun x : Option Addr × Nat × List Nat => Ch T q x.2.2 ∧ Cp T q x.2.2) (fun x => .slice x.1 x.2.2.length x.2.1) (fun x => own x.1 x.2.1 26 2 x.2.2.length (kc T x.2.2) :: fr) := by
  intro w hw
  have hg00 := (hs 0).1
  refine f_enter Try.func20 rfl Try.ntmps20 rfl hw ?_
  repeat' (first
   | ((refine z_isdst 6 ?_; refine o_alloca (e := 26) (vs := [.int .i64 0, .int .u64 0]) rfl (by kernel_rfl) (by decide) fun g6 => ?_))
   | ((refine z_isdst 20 ?_; refine o_buildf (t := 26) (zs := [.int .i64 0, .int .u64 0]) (vs := [.int .i64 _, .int .u64 _]) tabOk rfl rfl (by kernel_rfl) rfl ⟨_, _, rfl, rfl, Nat.le_of_ble_eq_true rfl, _, _, rfl, rfl, Nat.le_of_ble_eq_true rfl, rfl⟩ (by decide) ?_))
   | (refine s_is ?_; first
   | (refine s_isw ?_; first
   | (refine s_isloop ?_; first
   | ((refine c_loop (X := Option Addr × Nat × List Nat × Nat) (fun y => y.2.2.2 < 64 ∧ (T y.2.2.2).g ≠ 0 ∧ Ch T q y.2.2.1 ∧ Lk T q y.2.2.1 y.2.2.2 ∧ (0 < y.2.2.1.length → inS (T y.2.2.2).s q = true)) (fun y => [(0, .pointer (some ⟨b, 0, none⟩)), (1, .int .i64 q), (5, .slice y.1 y.2.2.1.length y.2.1), (6, .pointer (some ⟨g6, 0, none⟩))]) (fun y => cells g6 26 [.int .i64 y.2.2.2, .int .u64 (T y.2.2.2).g] :: own y.1 y.2.1 26 2 y.2.2.1.length (kc T y.2.2.1) :: fr) (fun y => (l - (T y.2.2.2).g).toNat) (none, 0, [], 0) ⟨(by decide : 0 < 64), hT.r.1, ch_nil T q, .inl ⟨rfl, rfl⟩, fun h => absurd h (Nat.lt_irrefl 0)⟩ ⟨rfl, rfl, rfl, rfl, trivial⟩ (fun w h => by dsimp only; rw [hg00, kc_nil]; exact (h.nil 26 (sz := 2)).sel 2 [1, 0] (by decide)) (fun y hy => ?_); obtain ⟨A, c, L, a⟩ := y; obtain ⟨ha, hg, hch, hlk, hlq⟩ := hy; dsimp only at ha hg hch hlk hlq ⊢; refine c_own2 1 rfl fun hkc hne => ?_; refine hold ?_)))
   | refine c_seq ?_
   | refine c_block ?_
   | refine c_region ?_
   | refine c_skip ?_
   | (refine s_iscond ?_; first
   | (refine c_false rfl (by first | (simp only [Bool.not_eq_false', decide_eq_true_eq]; omega) | (with_reducible assumption) | (rw [decide_eq_false] <;> (first | omega | with_reducible rfl)) | (rw [decide_eq_true] <;> (first | omega | with_reducible rfl)) | (simp; done) | (simp; omega)) ?_))))
   | (refine z_isnil ?_; first
   | refine z_list ?_)
   | (refine z_isop ?_; first
   | refine o_indexm tabOk rfl rfl rfl rfl (by omega) (by omega) (by decide) ?_
   | (refine z_isbin ?_; first
   | (refine z_isb .eql ?_; first
   | refine o_peq tabOk rfl rfl (by decide) ?_))
   | (refine z_isload ?_; first
   | (refine o_loadr tabOk (by first | exact own_rds 0 rfl | exact own_rds 1 rfl | (repeat (first | exact hrd | apply Rds.cons)); done | assumption) rfl rfl rfl (by first | exact dt_l _ _ | exact dt_n _ _ | exact tq_g _ _ (i := 0) (by decide) | rfl | rfl) (by decide) ?_))
   | (refine z_isstore ?_; first
   | (refine z_stw rfl ?_; first
   | ((refine z_sti 0 rfl rfl ?_; refine o_storeb0 rfl tabOk rfl rfl rfl (by first | rfl | exact dt_len _ _ | exact dnn_len _ | exact dcs_len _ | exact bs_len _ | (simp only [dnn_len, dcs_len, bs_len]; done) | rfl) (by first | rfl | exact dnn_one _ | exact dcs_one _ | exact dt_one _ _ | exact bs_one _ | rfl) (by first | rfl | exact dt_len _ _ | exact dnn_len _ | exact dcs_len _ | exact bs_len _ | (simp only [dnn_len, dcs_len, bs_len]; done) | rfl) ?_))))
   | refine o_move rfl (by decide) ?_
   | refine o_assign rfl (by decide) ?_
   | refine o_nil rfl (by decide) ?_
   | refine o_field0 tabOk rfl rfl rfl rfl rfl (by decide) ?_))
  refine Hold.go ?_
  have hll := ch_le hT hch
  have hiN : isN T a (T a).g := by unfold isN; exact ⟨by omega, by omega, hg, rfl⟩
  have hall : ∀ (i : Nat) (fr' : List Chunk), i < 64 → fr.Sublist fr' → Rds fr' (Tp i).A (rc (rws (T i).s)) := fun i fr' hi h => by
    rw [(hs i).2.2]
    exact (hal i hi).sub h
  by_cases hin : inS (T a).s q = true
  · have hch' := ch_add hch ha hg hin hlk
    repeat' (first
     | ((refine z_isdst 24 ?_; refine o_callr rfl Try.func12 rfl rfl rfl (set_sm hs l b _ (hrd.sub (List.sublist_append_right [_, _] _)) hiN) (by decide) ?_))
     | ((refine z_isdst 32 ?_; refine o_callr rfl Try.func21 rfl rfl rfl (has_w (T a).s _ _ q true hin _ (hall a _ ha (List.sublist_append_right [_, _, _] _))) (by decide) ?_))
     | ((refine z_isdst 43 ?_; refine o_calla Try.func15 rfl rfl rfl (kids_sm hs l b _ (by first | exact own_rds 0 rfl | exact own_rds 1 rfl | (repeat (first | exact hrd | apply Rds.cons)); done | assumption) hiN) (by decide) fun x _ => ?_))
     | ((refine z_isdst 7 ?_; refine o_alloca (e := 31) (vs := [.slice none 0 0]) rfl (by kernel_rfl) (by decide) fun g7 => ?_))
     | ((refine z_isdst 9 ?_; refine o_alloca (e := 26) (vs := [.int .i64 0, .int .u64 0]) rfl (by kernel_rfl) (by decide) fun g9 => ?_))
     | ((refine z_isdst 40 ?_; refine o_build0 (t := 26) (v := .agg #[.int .i64 0, .int .u64 0]) (fun _ => by kernel_rfl) (by decide) ?_))
     | (refine s_is ?_; first
     | (refine s_isw ?_; first
     | (refine s_isloop ?_; first
     | ((refine c_loop (X := Nat × Nat × Int) (fun y => y.1 ≤ (kd' T a 64).length ∧ Nx T q a (kd' T a 64) y.1 y.2.1 y.2.2) (fun y => [(0, .pointer (some ⟨b, 0, none⟩)), (1, .int .i64 q), (5, .slice A' (L.length + 1) c'), (6, .pointer (some ⟨g6, 0, none⟩)), (9, .pointer (some ⟨g9, 0, none⟩)), (43, .slice x.1 (kd' T a 64).length x.2), (44, .int .i64 (kd' T a 64).length), (45, .int .i64 y.1)]) (fun y => own x.1 x.2 26 2 (kd' T a 64).length (kc T (kd' T a 64)) :: cells g9 26 [.int .i64 y.2.1, .int .u64 y.2.2] :: own A' c' 26 2 (L.length + 1) (kc T L ++ [.int .i64 a, .int .u64 (T a).g]) :: cells g6 26 [.int .i64 a, .int .u64 (T a).g] :: fr) (fun y => (kd' T a 64).length - y.1) (0, 0, 0) ⟨Nat.zero_le _, nx_zero T q a _⟩ ⟨rfl, rfl, rfl, rfl, rfl, rfl, rfl, rfl, trivial⟩ (fun w h => by simp only [fronts, moveF, selF, sel1, nth, List.drop_succ_cons, List.drop_zero, List.eraseIdx_cons_zero, List.eraseIdx_cons_succ, maskL, List.cons_append, List.nil_append, List.append_eq, List.set_cons_zero, List.set_cons_succ] at h; exact ((h.sel 6 [0, 1, 2, 5, 3, 4] (by decide)).mask [true, true, true, true, false, false])) (fun y hy => ?_); obtain ⟨j, na, ng⟩ := y; obtain ⟨hj, hnx⟩ := hy; dsimp only at hj hnx ⊢; refine c_own2 0 rfl fun hkc2 hne2 => ?_; refine hold ?_)))
     | refine c_seq ?_
     | refine c_block ?_
     | refine c_region ?_
     | refine c_skip ?_
     | (refine s_iscond ?_; first
     | (refine c_false rfl (by first | (simp only [Bool.not_eq_false', decide_eq_true_eq]; omega) | (with_reducible assumption) | (rw [decide_eq_false] <;> (first | omega | with_reducible rfl)) | (rw [decide_eq_true] <;> (first | omega | with_reducible rfl)) | (simp; done) | (simp; omega)) ?_))))
     | (refine z_isg0 ?_; first
     | (refine z_want0 rfl rfl (by first | (simp only [Bool.not_eq_false', decide_eq_true_eq]; omega) | (with_reducible assumption) | (rw [decide_eq_false] <;> (first | omega | with_reducible rfl)) | (rw [decide_eq_true] <;> (first | omega | with_reducible rfl)) | (simp; done) | (simp; omega)) ?_))
     | (refine z_isnil ?_; first
     | refine z_list ?_)
     | (refine z_isop ?_; first
     | refine o_makew (vs := [.int .i64 a, .int .u64 (T a).g]) rfl tabOk zeroOk rfl rfl rfl rfl rfl rfl rfl (by decide) fun gn => ?_
     | (refine z_isload ?_; first
     | (refine z_ldw tabOk rfl rfl ?_; first
     | (refine o_loadwm tabOk rfl rfl rfl (by repeat' (first | exact List.mem_cons_self | apply List.mem_cons_of_mem)) (by first | rfl | exact dt_len _ _ | exact dnn_len _ | exact dcs_len _ | exact bs_len _ | (simp only [dnn_len, dcs_len, bs_len]; done) | rfl) (by decide) ?_)))
     | (refine z_isstore ?_; first
     | (refine z_stw rfl ?_; first
     | ((refine z_sti 0 rfl rfl ?_; refine o_storeb0 rfl tabOk rfl rfl rfl (by first | rfl | exact dt_len _ _ | exact dnn_len _ | exact dcs_len _ | exact bs_len _ | (simp only [dnn_len, dcs_len, bs_len]; done) | rfl) (by first | rfl | exact dnn_one _ | exact dcs_one _ | exact dt_one _ _ | exact bs_one _ | rfl) (by first | rfl | exact dt_len _ _ | exact dnn_len _ | exact dcs_len _ | exact bs_len _ | (simp only [dnn_len, dcs_len, bs_len]; done) | rfl) ?_))))
     | (refine z_ispick ?_; first
     | (refine o_pick0 rfl (by first | (simp only [Bool.not_eq_false', decide_eq_true_eq]; omega) | (with_reducible assumption) | (rw [decide_eq_false] <;> (first | omega | with_reducible rfl)) | (rw [decide_eq_true] <;> (first | omega | with_reducible rfl)) | (simp; done) | (simp; omega)) rfl (by decide) ?_))
     | (refine z_isbi ?_; first
     | refine o_len tabOk rfl rfl (by decide) ?_
     | (refine z_front rfl 3 rfl ?_; refine o_append rfl tabOk zeroOk rfl rfl rfl rfl rfl rfl (by first | exact own_rds 0 rfl | exact own_rds 1 rfl | (repeat (first | exact hrd | apply Rds.cons)); done | assumption) (by first | rfl | rfl | (simp; done)) (by first | rfl | rfl | (simp; done)) (by omega) (by omega) (by decide) fun A' c' => ?_))
     | refine o_move rfl (by decide) ?_
     | refine o_assign rfl (by decide) ?_
     | refine o_extract rfl rfl (by decide) ?_
     | refine o_not rfl (by decide) ?_))
    refine Hold.go ?_
    have hkle := kd_le T a 64
    by_cases hlt : j < (kd' T a 64).length
    · obtain ⟨hk1, hk2, hk3⟩ := kd_at hlt
      have hel := kc_el (T := T) hlt
      have hy1 := nx_yes (q := q) hk1 hk2 hk3
      have hy0 := nx_no hnx
      generalize hkk : (kd' T a 64).getD j 0 = k at *
      have hset : ∀ (j : Nat) u, [Value.slice (Tp k).A (rws (T k).s).length (Tp k).c][j]? = some u → (tq Tp l)[k * 3 + 2 + j]? = some u := by
        rw [(hs k).2.2]
        exact tq_set1 Tp l hk1
      by_cases hkq : inS (T k).s q = true
      · skip
        repeat' (first
         | ((refine z_isdst 47 ?_; refine o_indexsn tabOk (hne2 (by omega)) rfl rfl rfl rfl (by omega) (by omega) (by decide) ?_))
         | ((refine z_isdst 48 ?_; refine o_loadsw tabOk (own_rds 0 rfl) rfl rfl rfl (es := [.int .i64 k, .int .u64 (T k).g]) rfl (Nat.succ_pos _) hel (by decide) ?_))
         | ((refine z_isdst 56 ?_; refine o_loadrw tabOk (hrd.sub (List.sublist_append_right [_, _, _, _, _] _)) rfl rfl rfl (es := [.slice (Tp k).A (rws (T k).s).length (Tp k).c]) rfl (Nat.succ_pos _) hset (by decide) ?_))
         | ((refine z_isdst 58 ?_; refine o_callx0 Try.func21 rfl rfl rfl (has_w (T k).s _ _ q true hkq _ (hall k _ hk1 (List.sublist_append_right [_, _, _, _, _] _))) (by decide) (by decide) ?_))
         | ((refine z_isdst 11 ?_; refine o_alloca (e := 26) (vs := [.int .i64 0, .int .u64 0]) rfl (by kernel_rfl) (by decide) fun g11 => ?_))
         | (refine s_is ?_; first
         | (refine c_free0 ⟨[58], []⟩ [0, 1, 2, 3, 4, 5, 6, 7, 8, 9] (id := 13) mixed (by kernel_rfl) ?_)
         | (refine s_isagain ?_; first
         | (exact c_again (j + 1, k, (T k).g) ⟨(by dsimp only; omega), hy1 hkq⟩ (by dsimp only; omega) ⟨rfl, rfl, rfl, rfl, rfl, rfl, rfl, rfl, trivial⟩ (fun w h => ((h.sel 5 [1, 2, 3, 4, 0] (by decide)).mask [true, true, true, true, false]))))
         | (refine s_isw ?_; first
         | refine c_seq ?_
         | refine c_block ?_
         | refine c_region ?_
         | refine c_skip ?_
         | (refine s_iscond ?_; first
         | (refine c_true rfl (by first | with_reducible rfl | with_reducible assumption | ((with_reducible refine decide_eq_true ?_); first | with_reducible rfl | with_reducible assumption | omega)) ?_))))
         | (refine z_isnil ?_; first
         | refine z_mono0n ?_
         | refine z_list ?_)
         | (refine z_isop ?_; first
         | refine o_indexm tabOk rfl rfl rfl rfl (by omega) (by omega) (by decide) ?_
         | (refine z_isbin ?_; first
         | (refine z_isb .add ?_; first
         | refine o_add rfl rfl (by omega) (by omega) (by decide) ?_)
         | (refine z_isb .lss ?_; first
         | refine o_lt rfl rfl (by decide) ?_))
         | (refine z_isload ?_; first
         | (refine z_ld1 tabOk rfl rfl ?_; first
         | refine o_loadm tabOk rfl rfl rfl (by repeat' (first | exact List.mem_cons_self | apply List.mem_cons_of_mem)) (by first | exact dt_l _ _ | exact dt_n _ _ | exact tq_g _ _ (i := 0) (by decide) | rfl | rfl) (by decide) ?_)
         | (refine z_ldw tabOk rfl rfl ?_; first
         | (refine o_loadwm tabOk rfl rfl rfl (by repeat' (first | exact List.mem_cons_self | apply List.mem_cons_of_mem)) (by first | rfl | exact dt_len _ _ | exact dnn_len _ | exact dcs_len _ | exact bs_len _ | (simp only [dnn_len, dcs_len, bs_len]; done) | rfl) (by decide) ?_)))
         | (refine z_isstore ?_; first
         | (refine z_stw rfl ?_; first
         | ((refine z_sti 0 rfl rfl ?_; refine o_storeb0 rfl tabOk rfl rfl rfl (by first | rfl | exact dt_len _ _ | exact dnn_len _ | exact dcs_len _ | exact bs_len _ | (simp only [dnn_len, dcs_len, bs_len]; done) | rfl) (by first | rfl | exact dnn_one _ | exact dcs_one _ | exact dt_one _ _ | exact bs_one _ | rfl) (by first | rfl | exact dt_len _ _ | exact dnn_len _ | exact dcs_len _ | exact bs_len _ | (simp only [dnn_len, dcs_len, bs_len]; done) | rfl) ?_))
         | ((refine z_sti 2 rfl rfl ?_; refine o_storeb2 rfl tabOk rfl rfl rfl (by first | rfl | exact dt_len _ _ | exact dnn_len _ | exact dcs_len _ | exact bs_len _ | (simp only [dnn_len, dcs_len, bs_len]; done) | rfl) (by first | rfl | exact dnn_one _ | exact dcs_one _ | exact dt_one _ _ | exact bs_one _ | rfl) (by first | rfl | exact dt_len _ _ | exact dnn_len _ | exact dcs_len _ | exact bs_len _ | (simp only [dnn_len, dcs_len, bs_len]; done) | rfl) ?_))))
         | refine o_move rfl (by decide) ?_
         | refine o_nil rfl (by decide) ?_
         | refine o_field0 tabOk rfl rfl rfl rfl rfl (by decide) ?_
         | refine o_field tabOk rfl rfl rfl rfl rfl (by decide) ?_))
      · skip
        repeat' (first
         | ((refine z_isdst 47 ?_; refine o_indexsn tabOk (hne2 (by omega)) rfl rfl rfl rfl (by omega) (by omega) (by decide) ?_))
         | ((refine z_isdst 48 ?_; refine o_loadsw tabOk (own_rds 0 rfl) rfl rfl rfl (es := [.int .i64 k, .int .u64 (T k).g]) rfl (Nat.succ_pos _) hel (by decide) ?_))
         | ((refine z_isdst 56 ?_; refine o_loadrw tabOk (hrd.sub (List.sublist_append_right [_, _, _, _, _] _)) rfl rfl rfl (es := [.slice (Tp k).A (rws (T k).s).length (Tp k).c]) rfl (Nat.succ_pos _) hset (by decide) ?_))
         | ((refine z_isdst 58 ?_; refine o_callx0 Try.func21 rfl rfl rfl (has_w (T k).s _ _ q false (inS_off hkq) _ (hall k _ hk1 (List.sublist_append_right [_, _, _, _, _] _))) (by decide) (by decide) ?_))
         | ((refine z_isdst 11 ?_; refine o_alloca (e := 26) (vs := [.int .i64 0, .int .u64 0]) rfl (by kernel_rfl) (by decide) fun g11 => ?_))
         | (refine s_is ?_; first
         | (refine c_free0 ⟨[58], []⟩ [0, 1, 2, 3, 4, 5, 6, 7, 8, 9] (id := 13) mixed (by kernel_rfl) ?_)
         | (refine s_isagain ?_; first
         | (exact c_again (j + 1, na, ng) ⟨(by dsimp only; omega), hy0 (inS_off hkq)⟩ (by dsimp only; omega) ⟨rfl, rfl, rfl, rfl, rfl, rfl, rfl, rfl, trivial⟩ (fun w h => ((h.sel 5 [1, 2, 3, 4, 0] (by decide)).mask [true, true, true, true, false]))))
         | (refine s_isw ?_; first
         | refine c_seq ?_
         | refine c_block ?_
         | refine c_region ?_
         | refine c_skip ?_
         | (refine s_iscond ?_; first
         | (refine c_true rfl (by first | with_reducible rfl | with_reducible assumption | ((with_reducible refine decide_eq_true ?_); first | with_reducible rfl | with_reducible assumption | omega)) ?_)
         | (refine c_false rfl (by first | with_reducible rfl | with_reducible assumption | ((with_reducible refine decide_eq_false ?_); first | with_reducible assumption | omega)) ?_))))
         | (refine z_isnil ?_; first
         | refine z_mono0n ?_
         | refine z_list ?_)
         | (refine z_isop ?_; first
         | refine o_indexm tabOk rfl rfl rfl rfl (by omega) (by omega) (by decide) ?_
         | (refine z_isbin ?_; first
         | (refine z_isb .add ?_; first
         | refine o_add rfl rfl (by omega) (by omega) (by decide) ?_)
         | (refine z_isb .lss ?_; first
         | refine o_lt rfl rfl (by decide) ?_))
         | (refine z_isload ?_; first
         | (refine z_ld1 tabOk rfl rfl ?_; first
         | refine o_loadm tabOk rfl rfl rfl (by repeat' (first | exact List.mem_cons_self | apply List.mem_cons_of_mem)) (by first | exact dt_l _ _ | exact dt_n _ _ | exact tq_g _ _ (i := 0) (by decide) | rfl | rfl) (by decide) ?_))
         | (refine z_isstore ?_; first
         | (refine z_stw rfl ?_; first
         | ((refine z_sti 0 rfl rfl ?_; refine o_storeb0 rfl tabOk rfl rfl rfl (by first | rfl | exact dt_len _ _ | exact dnn_len _ | exact dcs_len _ | exact bs_len _ | (simp only [dnn_len, dcs_len, bs_len]; done) | rfl) (by first | rfl | exact dnn_one _ | exact dcs_one _ | exact dt_one _ _ | exact bs_one _ | rfl) (by first | rfl | exact dt_len _ _ | exact dnn_len _ | exact dcs_len _ | exact bs_len _ | (simp only [dnn_len, dcs_len, bs_len]; done) | rfl) ?_))))
         | refine o_move rfl (by decide) ?_
         | refine o_nil rfl (by decide) ?_
         | refine o_field0 tabOk rfl rfl rfl rfl rfl (by decide) ?_
         | refine o_field tabOk rfl rfl rfl rfl rfl (by decide) ?_))
    · obtain rfl : j = (kd' T a 64).length := by omega
      by_cases hng : ng = 0
      · have hnn : ∀ x, x < 64 → (T x).g ≠ 0 → (T x).p = (a : Int) → inS (T x).s q = false := nx_none (na := na) (by rw [← hng]; exact hnx)
        have hcp : Cp T q (L ++ [a]) := ch_done hT hch' (fun e => by simp at e) (fun _ x hx hgx hpx => hnn x hx hgx (by rw [hpx, List.length_append, List.length_singleton, Nat.add_sub_cancel, getD_e]))
        repeat' (first
         | (refine s_is ?_; first
         | (refine s_isret ?_; first
         | (exact f_r1 rfl (res_t rfl) (A', c', L ++ [a]) ⟨hch', hcp⟩ (by dsimp only; rw [List.length_append]; rfl) (fun w h => by dsimp only; rw [kc_add, List.length_append]; exact ((h.sel 4 [2, 0, 1, 3] (by decide)).mask [true, false, false, false]))))
         | (refine s_isw ?_; first
         | refine c_seq ?_
         | refine c_region ?_
         | refine c_ret ?_
         | refine c_exit ?_
         | (refine s_iscond ?_; first
         | (refine c_true rfl (by first | with_reducible rfl | with_reducible assumption | ((with_reducible refine decide_eq_true ?_); first | with_reducible rfl | with_reducible assumption | omega)) ?_)
         | (refine c_false rfl (by first | with_reducible rfl | with_reducible assumption | ((with_reducible refine decide_eq_false ?_); first | with_reducible assumption | omega)) ?_)))
         | refine x_then_ret ?_
         | refine x_block_ret _ ?_)
         | (refine z_isnil ?_; first
         | refine z_list ?_)
         | (refine z_isop ?_; first
         | (refine z_isbin ?_; first
         | (refine z_isb .eql ?_; first
         | refine o_eq rfl rfl (by decide) ?_)
         | (refine z_isb .lss ?_; first
         | refine o_lt rfl rfl (by decide) ?_))
         | (refine z_isload ?_; first
         | (refine z_ld1 tabOk rfl rfl ?_; first
         | refine o_loadm tabOk rfl rfl rfl (by repeat' (first | exact List.mem_cons_self | apply List.mem_cons_of_mem)) (by first | exact dt_l _ _ | exact dt_n _ _ | exact tq_g _ _ (i := 0) (by decide) | rfl | rfl) (by decide) ?_))
         | refine o_move rfl (by decide) ?_
         | refine o_assign rfl (by decide) ?_
         | refine o_field0 tabOk rfl rfl rfl rfl rfl (by decide) ?_))
      · obtain ⟨hna, hgn, hg0, hpn, hqn⟩ : na < 64 ∧ (T na).g = ng ∧ ng ≠ 0 ∧ (T na).p = (a : Int) ∧ inS (T na).s q = true := by
          rcases hnx with h | h
          · exact absurd h.1 hng
          · exact h
        have hlt := (hT.up hna (by rw [hgn]; exact hng) hpn).2.2
        have hgl := hT.gl na hna
        subst hgn
        repeat' (first
         | (refine s_is ?_; first
         | (refine s_isagain ?_; first
         | (exact c_again (A', c', L ++ [a], na) ⟨hna, hng, hch', ch_add_lk hpn, fun _ => hqn⟩ (by dsimp only; omega) ⟨rfl, rfl, (by dsimp only; rw [List.length_append]; rfl), rfl, trivial⟩ (fun w h => by dsimp only; rw [kc_add, List.length_append]; exact ((h.sel 4 [3, 2, 0, 1] (by decide)).mask [true, true, false, false]))))
         | (refine s_isw ?_; first
         | refine c_seq ?_
         | refine c_region ?_
         | refine c_skip ?_
         | refine c_exit ?_
         | (refine s_iscond ?_; first
         | (refine c_false rfl (by first | with_reducible rfl | with_reducible assumption | ((with_reducible refine decide_eq_false ?_); first | with_reducible assumption | omega)) ?_))))
         | (refine z_isnil ?_; first
         | refine z_list ?_)
         | (refine z_isop ?_; first
         | (refine z_isbin ?_; first
         | (refine z_isb .eql ?_; first
         | refine o_eq rfl rfl (by decide) ?_)
         | (refine z_isb .lss ?_; first
         | refine o_lt rfl rfl (by decide) ?_))
         | (refine z_isload ?_; first
         | (refine z_ld1 tabOk rfl rfl ?_; first
         | refine o_loadm tabOk rfl rfl rfl (by repeat' (first | exact List.mem_cons_self | apply List.mem_cons_of_mem)) (by first | exact dt_l _ _ | exact dt_n _ _ | exact tq_g _ _ (i := 0) (by decide) | rfl | rfl) (by decide) ?_)
         | (refine z_ldw tabOk rfl rfl ?_; first
         | (refine o_loadwm tabOk rfl rfl rfl (by repeat' (first | exact List.mem_cons_self | apply List.mem_cons_of_mem)) (by first | rfl | exact dt_len _ _ | exact dnn_len _ | exact dcs_len _ | exact bs_len _ | (simp only [dnn_len, dcs_len, bs_len]; done) | rfl) (by decide) ?_)))
         | (refine z_isstore ?_; first
         | (refine z_stw rfl ?_; first
         | ((refine z_sti 3 rfl rfl ?_; refine o_storeb3 rfl tabOk rfl rfl rfl (by first | rfl | exact dt_len _ _ | exact dnn_len _ | exact dcs_len _ | exact bs_len _ | (simp only [dnn_len, dcs_len, bs_len]; done) | rfl) (by first | rfl | exact dnn_one _ | exact dcs_one _ | exact dt_one _ _ | exact bs_one _ | rfl) (by first | rfl | exact dt_len _ _ | exact dnn_len _ | exact dcs_len _ | exact bs_len _ | (simp only [dnn_len, dcs_len, bs_len]; done) | rfl) ?_))))
         | refine o_field0 tabOk rfl rfl rfl rfl rfl (by decide) ?_))
  · have hin' := inS_off hin
    have hLn : L = [] := Classical.byContradiction fun e => hin (hlq (Nat.pos_of_ne_zero fun h => e (List.eq_nil_of_length_eq_zero h)))
    have ha0 : a = 0 := by
      rcases hlk with h | h
      · exact h.2
      · rw [hLn] at h; exact absurd h.1 (Nat.lt_irrefl _)
    have hcp : Cp T q L := ch_done hT hch (fun _ => by rw [← ha0]; exact hin') (fun h => by rw [hLn] at h; exact absurd h (Nat.lt_irrefl _))
    repeat' (first
     | ((refine z_isdst 24 ?_; refine o_callr rfl Try.func12 rfl rfl rfl (set_sm hs l b _ (hrd.sub (List.sublist_append_right [_, _] _)) hiN) (by decide) ?_))
     | ((refine z_isdst 32 ?_; refine o_callr rfl Try.func21 rfl rfl rfl (has_w (T a).s _ _ q false hin' _ (hall a _ ha (List.sublist_append_right [_, _, _] _))) (by decide) ?_))
     | ((refine z_isdst 7 ?_; refine o_alloca (e := 31) (vs := [.slice none 0 0]) rfl (by kernel_rfl) (by decide) fun g7 => ?_))
     | (refine s_is ?_; first
     | (refine s_isret ?_; first
     | exact f_r1 rfl (res_t rfl) (A, c, L) ⟨hch, hcp⟩ rfl (fun w h => ((h.sel 3 [2, 0, 1] (by decide)).mask [true, false, false])))
     | (refine s_isw ?_; first
     | refine c_seq ?_
     | refine c_block ?_
     | refine c_region ?_
     | refine c_ret ?_
     | (refine s_iscond ?_; first
     | (refine c_true rfl (by first | (simp only [Bool.not_eq_true', decide_eq_false_iff_not]; omega) | (with_reducible assumption) | (rw [decide_eq_false] <;> (first | omega | with_reducible rfl)) | (rw [decide_eq_true] <;> (first | omega | with_reducible rfl)) | (simp; done) | (simp; omega)) ?_)))
     | refine x_then_ret ?_
     | refine x_block_ret _ ?_)
     | (refine z_isg0 ?_; first
     | (refine z_want0 rfl rfl (by first | (simp only [Bool.not_eq_false', decide_eq_true_eq]; omega) | (with_reducible assumption) | (rw [decide_eq_false] <;> (first | omega | with_reducible rfl)) | (rw [decide_eq_true] <;> (first | omega | with_reducible rfl)) | (simp; done) | (simp; omega)) ?_))
     | (refine z_isnil ?_; first
     | refine z_list ?_)
     | (refine z_isop ?_; first
     | (refine z_isload ?_; first
     | (refine z_ldw tabOk rfl rfl ?_; first
     | (refine o_loadwm tabOk rfl rfl rfl (by repeat' (first | exact List.mem_cons_self | apply List.mem_cons_of_mem)) (by first | rfl | exact dt_len _ _ | exact dnn_len _ | exact dcs_len _ | exact bs_len _ | (simp only [dnn_len, dcs_len, bs_len]; done) | rfl) (by decide) ?_)))
     | (refine z_isstore ?_; first
     | (refine z_stw rfl ?_; first
     | ((refine z_sti 0 rfl rfl ?_; refine o_storeb0 rfl tabOk rfl rfl rfl (by first | rfl | exact dt_len _ _ | exact dnn_len _ | exact dcs_len _ | exact bs_len _ | (simp only [dnn_len, dcs_len, bs_len]; done) | rfl) (by first | rfl | exact dnn_one _ | exact dcs_one _ | exact dt_one _ _ | exact bs_one _ | rfl) (by first | rfl | exact dt_len _ _ | exact dnn_len _ | exact dcs_len _ | exact bs_len _ | (simp only [dnn_len, dcs_len, bs_len]; done) | rfl) ?_))))
     | (refine z_ispick ?_; first
     | (refine o_pick0 rfl (by first | (simp only [Bool.not_eq_false', decide_eq_true_eq]; omega) | (with_reducible assumption) | (rw [decide_eq_false] <;> (first | omega | with_reducible rfl)) | (rw [decide_eq_true] <;> (first | omega | with_reducible rfl)) | (simp; done) | (simp; omega)) rfl (by decide) ?_))
     | refine o_move rfl (by decide) ?_
     | refine o_assign rfl (by decide) ?_
     | refine o_extract rfl rfl (by decide) ?_
     | refine o_not rfl (by decide) ?_))
end Go.Proofs.Ytfegdehgnhomnaa
