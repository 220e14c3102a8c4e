/-
Caps: Cut.
-/
import Derived.Test.YtfegdehgnhomnaaCa7
namespace Go.Proofs.Ytfegdehgnhomnaa
set_option linter.unusedVariables false
set_option linter.unusedSimpArgs false
open Eng
/-- The same tree, wherever its rows lie. -/
def Sm (T T' : Tq) : Prop := ∀ i, (T i).g = (T' i).g ∧ (T i).p = (T' i).p ∧ (T i).s = (T' i).s
theorem Sm.refl (T : Tq) : Sm T T := fun _ => ⟨rfl, rfl, rfl⟩
theorem Sm.symm {T U : Tq} (h : Sm T U) : Sm U T := fun i => ⟨(h i).1.symm, (h i).2.1.symm, (h i).2.2.symm⟩
theorem Sm.trans {T U V : Tq} (h : Sm T U) (h2 : Sm U V) : Sm T V := fun i => ⟨(h i).1.trans (h2 i).1, (h i).2.1.trans (h2 i).2.1, (h i).2.2.trans (h2 i).2.2⟩
theorem Sm.kd {T U : Tq} (h : Sm T U) (a : Int) : ∀ n, kd' T a n = kd' U a n
  | 0 => rfl
  | n + 1 => by
    simp only [kd']
    rw [h.kd a n, (h n).1, (h n).2.1]
theorem Sm.isN {T U : Tq} (h : Sm T U) {a g : Int} (hi : isN T a g) : Go.Proofs.Ytfegdehgnhomnaa.isN U a g := ⟨hi.1, hi.2.1, hi.2.2.1, (h a.toNat).1 ▸ hi.2.2.2⟩
theorem Sm.upd {T U : Tq} (h : Sm T U) (k : Nat) {x y : Cq} (hx : x.g = y.g ∧ x.p = y.p ∧ x.s = y.s) : Sm (upd T k x) (upd U k y) := fun i => by
  unfold Eng.upd
  split
  · exact hx
  · exact h i
/-- Cut, cap by cap. -/
def ctS (F : Tq → Nat → Int → Option (Tq × Nat)) (T0 : Tq) (K : List Nat) : Nat → Option (Tq × Nat)
  | 0 => some (T0, 0)
  | j + 1 => match ctS F T0 K j with
    | none => none
    | some (T, n) => match F T (K.getD j 0) (T0 (K.getD j 0)).g with
      | none => none
      | some (T1, m) => some (T1, n + m)
def cutX (S : Nat → Bool) (x : Cq) : Cq := if (al (layS 1 x.s S) 1024).length = 0 ∧ 0 ≤ x.p then Cq.zero else { x with s := layS 1 x.s S }
def cutC (S : Nat → Bool) (x : Cq) : Nat := if (al (layS 2 x.s S) 1024).length = 0 then 0 else 1
def ctF (S : Nat → Bool) : Nat → Tq → Nat → Int → Option (Tq × Nat)
  | 0, _, _, _ => none
  | f + 1, T, a, g => if isN T a g then match ctS (ctF S f) T (kd' T a 64) (kd' T a 64).length with
      | none => none
      | some (T1, n) => some (upd T1 a (cutX S (T1 a)), n + cutC S (T1 a))
    else some (T, 0)
theorem ctS_zero (F : Tq → Nat → Int → Option (Tq × Nat)) (T0 : Tq) (K : List Nat) : ctS F T0 K 0 = some (T0, 0) := rfl
theorem ctS_succ {F : Tq → Nat → Int → Option (Tq × Nat)} {T0 : Tq} {K : List Nat} {j : Nat} {T2 : Tq} {n2 : Nat} (h : ctS F T0 K (j + 1) = some (T2, n2)) : ∃ T n m, ctS F T0 K j = some (T, n) ∧ F T (K.getD j 0) (T0 (K.getD j 0)).g = some (T2, m) ∧ n2 = n + m := by
  simp only [ctS] at h
  cases h1 : ctS F T0 K j with
  | none => rw [h1] at h; cases h
  | some x =>
    obtain ⟨T, n⟩ := x
    rw [h1] at h
    simp only at h
    cases h2 : F T (K.getD j 0) (T0 (K.getD j 0)).g with
    | none => rw [h2] at h; cases h
    | some y =>
      obtain ⟨T1, m⟩ := y
      rw [h2] at h
      simp only [Option.some.injEq, Prod.mk.injEq] at h
      obtain ⟨rfl, rfl⟩ := h
      exact ⟨T, n, m, rfl, h2, rfl⟩
theorem ctS_pre {F : Tq → Nat → Int → Option (Tq × Nat)} {T0 : Tq} {K : List Nat} {j : Nat} : ∀ q T2 n2, ctS F T0 K (j + q) = some (T2, n2) → ∃ T n, ctS F T0 K j = some (T, n) ∧ n ≤ n2
  | 0, T2, n2, h => ⟨T2, n2, h, Nat.le_refl _⟩
  | q + 1, T2, n2, h => by
    obtain ⟨T, n, m, h1, _, h4⟩ := ctS_succ (j := j + q) h
    obtain ⟨T', n', h5, h6⟩ := ctS_pre q T n h1
    exact ⟨T', n', h5, by omega⟩
theorem ctF_in {S : Nat → Bool} {f : Nat} {T : Tq} {a : Nat} {g : Int} {T' : Tq} {n : Nat} (hi : isN T a g) (h : ctF S (f + 1) T a g = some (T', n)) : ∃ T1 n1, ctS (ctF S f) T (kd' T a 64) (kd' T a 64).length = some (T1, n1) ∧ T' = upd T1 a (cutX S (T1 a)) ∧ n = n1 + cutC S (T1 a) := by
  simp only [ctF] at h
  rw [if_pos hi] at h
  cases h1 : ctS (ctF S f) T (kd' T a 64) (kd' T a 64).length with
  | none => rw [h1] at h; cases h
  | some x =>
    obtain ⟨T1, n1⟩ := x
    rw [h1] at h
    simp only [Option.some.injEq, Prod.mk.injEq] at h
    exact ⟨T1, n1, rfl, h.1.symm, h.2.symm⟩
theorem ctF_out {S : Nat → Bool} {f : Nat} {T : Tq} {a : Nat} {g : Int} {T' : Tq} {n : Nat} (hi : ¬ isN T a g) (h : ctF S (f + 1) T a g = some (T', n)) : T' = T ∧ n = 0 := by
  simp only [ctF] at h
  rw [if_neg hi] at h
  simp only [Option.some.injEq, Prod.mk.injEq] at h
  exact ⟨h.1.symm, h.2.symm⟩
theorem ctF_zero {S : Nat → Bool} {T : Tq} {a : Nat} {g : Int} {T' : Tq} {n : Nat} (h : ctF S 0 T a g = some (T', n)) : False := by cases h
theorem cutC_0 {S : Nat → Bool} {x : Cq} {r : Nat → Bool} (hr : layS 2 x.s S = r) (h : (al r 1024).length = 0) : cutC S x = 0 := by subst hr; exact if_pos h
theorem cutC_1 {S : Nat → Bool} {x : Cq} {r : Nat → Bool} (hr : layS 2 x.s S = r) (h : (al r 1024).length ≠ 0) : cutC S x = 1 := by subst hr; exact if_neg h
theorem cutX_0 {S : Nat → Bool} {x : Cq} (h : (al (layS 1 x.s S) 1024).length = 0) (hp : 0 ≤ x.p) : cutX S x = Cq.zero := if_pos ⟨h, hp⟩
theorem cutX_1 {S : Nat → Bool} {x : Cq} (h : ¬ ((al (layS 1 x.s S) 1024).length = 0 ∧ 0 ≤ x.p)) : cutX S x = { x with s := layS 1 x.s S } := if_neg h
theorem cutX_sm {S : Nat → Bool} {x y : Cq} (hp : x.p = y.p) (hs : x.s = y.s) (hg : x.g = y.g) : (cutX S x).g = (cutX S y).g ∧ (cutX S x).p = (cutX S y).p ∧ (cutX S x).s = (cutX S y).s := by
  unfold cutX
  rw [hp, hs]
  split
  · exact ⟨rfl, rfl, rfl⟩
  · exact ⟨hg, by first | exact hp | rfl, rfl⟩
theorem cutC_sm {S : Nat → Bool} {x y : Cq} (hs : x.s = y.s) : cutC S x = cutC S y := by unfold cutC; rw [hs]
theorem upd_same (T : Tq) (k : Nat) (x : Cq) : (upd T k x) k = x := by unfold Eng.upd; rw [if_pos rfl]
theorem upd_upd (T : Tq) (k : Nat) (x y : Cq) : upd (upd T k x) k y = upd T k y := by
  funext i
  unfold Eng.upd
  split <;> rfl
theorem tq_setu (T : Tq) (l : Int) {i : Nat} (h : i < 64) (g p : Int) (A : Option Addr) (c : Nat) (s : Nat → Bool) : ∀ (j : Nat) u, [Value.slice A (rws s).length c][j]? = some u → (tq (upd T i ⟨g, p, A, c, s⟩) l)[i * 3 + 2 + j]? = some u := fun j u hu => by
  have := tq_set1 (upd T i ⟨g, p, A, c, s⟩) l h
  rw [upd_same] at this
  exact this j u hu
theorem tq_pu (T : Tq) (l : Int) {i : Nat} (h : i < 64) (g p : Int) (A : Option Addr) (c : Nat) (s : Nat → Bool) : (tq (upd T i ⟨g, p, A, c, s⟩) l)[i * 3 + 1]? = some (.int .i64 p) := by
  have := tq_p (upd T i ⟨g, p, A, c, s⟩) l h
  rw [upd_same] at this
  exact this
theorem tq_puts (T : Tq) (l : Int) {i : Nat} (h : i < 64) (A : Option Addr) (c : Nat) (s : Nat → Bool) : (tq T l).take (i * 3 + 2) ++ [.slice A (rws s).length c] ++ (tq T l).drop (i * 3 + 2 + 1) = tq (upd T i ⟨(T i).g, (T i).p, A, c, s⟩) l := by
  refine tq_ext (by simp [tq_len]; omega) (fun i' j' hi' hj' => ?_) ?_
  · unfold upd
    by_cases h1 : i' * 3 + j' < i * 3 + 2
    · rw [List.append_assoc, List.getElem?_append_left (by simp [tq_len]; omega), List.getElem?_take_of_lt (by omega), tq_get T l hi' hj']
      by_cases h2 : i' = i
      · subst h2
        rw [if_pos rfl]
        obtain rfl | rfl : j' = 0 ∨ j' = 1 := by omega
        · rw [cq_g, cq_g]
        · rw [cq_p, cq_p]
      · rw [if_neg h2]
    · by_cases h2 : i' = i
      · subst h2
        obtain rfl : j' = 2 := by omega
        rw [if_pos rfl, cq_s, List.getElem?_append_left (by simp [tq_len]; omega), List.getElem?_append_right (by simp [tq_len]; omega), List.length_take, tq_len, Nat.min_eq_left (by omega), Nat.sub_self]; rfl
      · rw [if_neg h2, List.getElem?_append_right (by simp [tq_len]; omega), List.getElem?_drop, List.length_append, List.length_take, tq_len, List.length_singleton, Nat.min_eq_left (by omega), show i * 3 + 2 + 1 + (i' * 3 + j' - (i * 3 + 2 + 1)) = i' * 3 + j' by omega, tq_get T l hi' hj']
  · rw [List.getElem?_append_right (by simp [tq_len]; omega), List.getElem?_drop, List.length_append, List.length_take, tq_len, List.length_singleton, Nat.min_eq_left (by omega), show i * 3 + 2 + 1 + (192 - (i * 3 + 2 + 1)) = 192 by omega, tq_last]
theorem tq_zero_u (T : Tq) (l : Int) {i : Nat} (h : i < 64) (x : Cq) : (tq (upd T i x) l).take (((i : Int)).toNat * 3) ++ [.int .u64 0, .int .i64 0, .slice none 0 0] ++ (tq (upd T i x) l).drop (((i : Int)).toNat * 3 + 3) = tq (upd T i Cq.zero) l := by
  rw [tq_zero_at _ l h, upd_upd]
theorem fin_1 {S : Nat → Bool} {Tk Tp : Tq} (h : Sm Tk Tp) {a : Nat} (hc : ¬ ((al (layS 1 (Tp a).s S) 1024).length = 0 ∧ 0 ≤ (Tp a).p)) (A : Option Addr) (c : Nat) : Sm (upd Tk a (cutX S (Tk a))) (upd Tp a ⟨(Tp a).g, (Tp a).p, A, c, layS 1 (Tp a).s S⟩) := h.upd a (by
  have := cutX_sm (S := S) (h a).2.1 (h a).2.2 (h a).1
  rw [cutX_1 hc] at this
  exact this)
theorem fin_0 {S : Nat → Bool} {Tk Tp : Tq} (h : Sm Tk Tp) {a : Nat} (hc : (al (layS 1 (Tp a).s S) 1024).length = 0) (hp : 0 ≤ (Tp a).p) : Sm (upd Tk a (cutX S (Tk a))) (upd Tp a Cq.zero) := h.upd a (by
  have := cutX_sm (S := S) (h a).2.1 (h a).2.2 (h a).1
  rw [cutX_0 hc hp] at this
  exact this)
theorem rds_nil' (fr : List Chunk) : Rds fr Cq.zero.A (rc (rws Cq.zero.s)) := by
  show Rds fr none (rc (rws emp))
  rw [rws_emp, rc_nil]; exact Rds.nil _ _
attribute [local irreducible] Eng.Hold Eng.Z Eng.S Eng.cells Eng.old Eng.own rc rws tq tqn Cq.cs emp
attribute [local irreducible] kd' kc lv zt ls layS rvS rvF lnt al ctS ctF cutX cutC
set_option maxHeartbeats 4000000 in
theorem cut_c (l : Int) (b : Nat) (S : Nat → Bool) (Sx : Option Addr) (sc : Nat) : ∀ (f : Nat) (T : Tq) (a : Nat) (g : Int) (T' : Tq) (n : Nat), ctF S f T a g = some (T', n) → n ≤ 1000000 → ∀ (T2 : Tq) (fr : List Chunk), Sm T T2 → Al fr T2 → Rds fr Sx (rc (rws S)) →
    Does Try.prog 22 [.pointer (some ⟨b, 0, none⟩), cap a g, .agg #[.slice Sx (rws S).length sc]] (cells b 73 (tq T2 l) :: fr) (fun x : Tq × List Chunk => Sm T' x.1 ∧ Al (x.2 ++ fr) x.1) (fun _ => .tuple #[.int .i64 n, .int .i64 (if isN T a g then 0 else 3)]) (fun x => cells b 73 (tq x.1 l) :: (x.2 ++ fr))
  | 0, T, a, g, T', n, h, hn => (ctF_zero h).elim
  | f + 1, T, a, g, T', n, h, hn => by
    intro T2 fr hsm hal hS w hw
    have hkl := kd_le T2 a 64
    refine f_enter Try.func22 rfl Try.ntmps22 rfl hw ?_
    by_cases hi : isN T a g
    · rw [if_pos hi]
      obtain ⟨Te, nE, h1, hT', hnE⟩ := ctF_in hi h
      rw [hsm.kd] at h1
      have hi2 := hsm.isN hi
      have ha : a < 64 := isN_nat hi
      repeat' (first
       | ((refine z_isdst 18 ?_; refine o_callr rfl Try.func31 rfl rfl rfl (node_yes T2 l a g b _ (cells_rds 2 rfl) hi2) (by decide) ?_))
       | ((refine z_isdst 25 ?_; refine o_calla Try.func15 rfl rfl rfl (kids_yes T2 l a g b _ (cells_rds 2 rfl) hi2) (by decide) fun x _ => ?_))
       | ((refine z_isdst 4 ?_; refine o_boxa (vs := [.int .i64 (a : Nat), .int .u64 g]) rfl rfl (by decide) fun gc => ?_))
       | ((refine z_isdst 5 ?_; refine o_boxa (vs := [.slice Sx (rws S).length sc]) rfl rfl (by decide) fun gs => ?_))
       | (refine s_is ?_; first
       | (refine s_isw ?_; first
       | (refine s_isloop ?_; first
       | ((refine c_loop (X := Nat × Tq × Tq × Nat × List Chunk) (fun y => y.1 ≤ (kd' T2 a 64).length ∧ ctS (ctF S f) T (kd' T2 a 64) y.1 = some (y.2.1, y.2.2.2.1) ∧ Sm y.2.1 y.2.2.1 ∧ Al (y.2.2.2.2 ++ fr) y.2.2.1) (fun y => [(0, .pointer (some ⟨b, 0, none⟩)), (4, .pointer (some ⟨gc, 0, none⟩)), (5, .pointer (some ⟨gs, 0, none⟩)), (8, .pointer (some ⟨b, a * 3, none⟩)), (10, .int .i64 y.2.2.2.1), (25, .slice x.1 (kd' T2 a 64).length x.2), (26, .int .i64 (kd' T2 a 64).length), (27, .int .i64 y.1)]) (fun y => own x.1 x.2 26 2 (kd' T2 a 64).length (kc T2 (kd' T2 a 64)) :: cells gs 31 [.slice Sx (rws S).length sc] :: cells gc 26 [.int .i64 a, .int .u64 g] :: cells b 73 (tq y.2.2.1 l) :: (y.2.2.2.2 ++ fr)) (fun y => (kd' T2 a 64).length - y.1) (0, T, T2, 0, []) ⟨Nat.zero_le _, ctS_zero _ _ _, hsm, hal⟩ ⟨rfl, rfl, rfl, rfl, rfl, rfl, rfl, rfl, trivial⟩ (fun w h => h) (fun y hy => ?_); obtain ⟨k, Tk, Tp, nk, nw⟩ := y; obtain ⟨hk, hs, hsk, halk⟩ := hy; dsimp only at hk hs hsk halk ⊢; refine c_own2 0 rfl fun hkc hne => ?_; refine hold ?_)))
       | refine c_seq ?_
       | refine c_block ?_
       | refine c_region ?_
       | refine c_skip ?_
       | (refine s_iscond ?_; first
       | (refine c_false rfl (by first | (simp only [Bool.not_eq_false', decide_eq_true_eq]; omega) | (with_reducible assumption) | (rw [decide_eq_false] <;> (first | omega | with_reducible rfl)) | (rw [decide_eq_true] <;> (first | omega | with_reducible rfl)) | (simp; done) | (simp; omega)) ?_))))
       | (refine z_isnil ?_; first
       | refine z_list ?_)
       | (refine z_isop ?_; first
       | (refine z_isload ?_; first
       | (refine z_ldw tabOk rfl rfl ?_; first
       | (refine o_loadwm tabOk rfl rfl rfl (by repeat' (first | exact List.mem_cons_self | apply List.mem_cons_of_mem)) (by first | rfl | exact tq_len _ _ | exact cq_len _ | exact tqn_len _ | (simp only [tq_len, cq_len]; done) | rfl) (by decide) ?_)))
       | (refine z_isbi ?_; first
       | refine o_len tabOk rfl rfl (by decide) ?_)
       | refine o_move rfl (by decide) ?_
       | refine o_assign rfl (by decide) ?_
       | refine o_extract rfl rfl (by decide) ?_
       | refine o_not rfl (by decide) ?_))
      refine Hold.go ?_
      by_cases hl : k < (kd' T2 a 64).length
      · have hi6 := kd_lt hl
        have hel := kc_el (T := T2) hl
        obtain ⟨T5, n5, h5, hn5⟩ := ctS_pre (j := k + 1) ((kd' T2 a 64).length - (k + 1)) Te nE (by rw [show k + 1 + ((kd' T2 a 64).length - (k + 1)) = (kd' T2 a 64).length by omega]; exact h1)
        obtain ⟨T3, n3, m, h3, h4, h6⟩ := ctS_succ h5
        rw [hs] at h3
        simp only [Option.some.injEq, Prod.mk.injEq] at h3
        obtain ⟨rfl, rfl⟩ := h3
        rw [(hsm _).1] at h4
        generalize hii : (kd' T2 a 64).getD k 0 = i at *
        have IH := cut_c l b S Sx sc f Tk i (T2 i).g T5 m h4 (by omega) Tp (nw ++ fr) hsk halk (hS.sub (List.sublist_append_right _ _))
        repeat' (first
         | ((refine z_isdst 29 ?_; refine o_indexsn tabOk (hne (by omega)) rfl rfl rfl rfl (by omega) (by omega) (by decide) ?_))
         | ((refine z_isdst 30 ?_; refine o_loadsw tabOk (own_rds 0 rfl) rfl rfl rfl (es := [.int .i64 i, .int .u64 (T2 i).g]) rfl (Nat.succ_pos _) hel (by decide) ?_))
         | ((refine z_isdst 35 ?_; refine o_call Try.func22 rfl rfl rfl IH (List.perm_append_comm (l₁ := [_, _, _, _])) (by decide) fun u hu => ?_))
         | ((refine z_isdst 12 ?_; refine o_alloca (e := 26) (vs := [.int .i64 0, .int .u64 0]) rfl (by kernel_rfl) (by decide) fun g12 => ?_))
         | (refine s_is ?_; first
         | (refine s_isagain ?_; first
         | (exact c_again (k + 1, T5, u.1, n5, u.2 ++ nw) ⟨by dsimp only; omega, h5, hu.1, by rw [List.append_assoc]; exact hu.2⟩ (by dsimp only; omega) ⟨rfl, rfl, rfl, rfl, (by dsimp only; exact congrArg some (congrArg (Value.int .i64) (by omega))), rfl, rfl, rfl, trivial⟩ (fun w h => by dsimp only; rw [List.append_assoc]; exact (h.perm (List.perm_append_comm (l₂ := [_, _, _, _]))).drop1)))
         | (refine s_isw ?_; first
         | refine c_seq ?_
         | refine c_block ?_
         | refine c_region ?_
         | refine c_skip ?_
         | (refine s_iscond ?_; first
         | (refine c_true rfl (by first | with_reducible rfl | with_reducible assumption | ((with_reducible refine decide_eq_true ?_); first | with_reducible rfl | with_reducible assumption | omega)) ?_))))
         | (refine z_isnil ?_; first
         | refine z_list ?_)
         | (refine z_isop ?_; first
         | (refine z_isbin ?_; first
         | (refine z_isb .add ?_; first
         | refine o_add rfl rfl (by omega) (by omega) (by decide) ?_)
         | (refine z_isb .lss ?_; first
         | refine o_lt rfl rfl (by decide) ?_))
         | (refine z_isload ?_; first
         | (refine z_ldw tabOk rfl rfl ?_; first
         | (refine o_loadwm tabOk rfl rfl rfl (by repeat' (first | exact List.mem_cons_self | apply List.mem_cons_of_mem)) (by first | rfl | exact tq_len _ _ | exact cq_len _ | exact tqn_len _ | (simp only [tq_len, cq_len]; done) | rfl) (by decide) ?_)))
         | (refine z_isstore ?_; first
         | (refine z_stw rfl ?_; first
         | ((refine z_sti 0 rfl rfl ?_; refine o_storeb0 rfl tabOk rfl rfl rfl (by first | rfl | exact tq_len _ _ | exact cq_len _ | exact tqn_len _ | (simp only [tq_len, cq_len]; done) | rfl) (by first | rfl | exact tq_one _ _ | exact cq_one _ | rfl) (by first | rfl | exact tq_len _ _ | exact cq_len _ | exact tqn_len _ | (simp only [tq_len, cq_len]; done) | rfl) ?_))))
         | refine o_move rfl (by decide) ?_
         | refine o_assign rfl (by decide) ?_
         | refine o_extract rfl rfl (by decide) ?_))
      · obtain rfl : k = (kd' T2 a 64).length := by omega
        rw [h1] at hs
        simp only [Option.some.injEq, Prod.mk.injEq] at hs
        obtain ⟨rfl, rfl⟩ := hs
        subst hT'
        have hS' : Rds (nw ++ fr) Sx (rc (rws S)) := hS.sub (List.sublist_append_right _ _)
        rw [cutC_sm (hsk a).2.2] at hnE
        generalize hr2 : layS 2 (Tp a).s S = r2
        generalize hr1 : layS 1 (Tp a).s S = r1
        by_cases h2 : (al r2 1024).length = 0
        · rw [cutC_0 hr2 h2] at hnE
          have hnn : ((nE : Nat) : Int) = (n : Int) := by omega
          by_cases hz1 : (al r1 1024).length = 0
          · by_cases hz2 : 0 ≤ (Tp a).p
            · skip
              repeat' (first
               | ((refine z_isdst 45 ?_; refine o_loadrw tabOk (cells_rds 3 rfl) rfl rfl rfl (es := [.slice (Tp a).A (rws (Tp a).s).length (Tp a).c]) rfl (Nat.succ_pos _) (tq_set1 Tp l ha) (by decide) ?_))
               | ((refine z_isdst 47 ?_; refine o_callx1 Try.func41 rfl rfl rfl (both_s (Tp a).s S r2 hr2 _ _ _ _ _ ((halk a ha).sub (List.sublist_append_right [_, _, _, _] _)) (hS'.sub (List.sublist_append_right [_, _, _, _] _))) (by decide) (by decide) fun v _ => ?_))
               | ((refine z_isdst 48 ?_; refine o_callx0 Try.func16 rfl rfl rfl (slen_s r2 _ _ _ (own_rds 0 rfl)) (by decide) (by decide) ?_))
               | refine z_mono0w ?_
               | ((refine z_isdst 56 ?_; refine o_loadrw tabOk (cells_rds 4 rfl) rfl rfl rfl (es := [.slice (Tp a).A (rws (Tp a).s).length (Tp a).c]) rfl (Nat.succ_pos _) (tq_set1 Tp l ha) (by decide) ?_))
               | ((refine z_isdst 58 ?_; refine o_callx1 Try.func32 rfl rfl rfl (without_s (Tp a).s S r1 hr1 _ _ _ _ _ ((halk a ha).sub (List.sublist_append_right [_, _, _, _, _] _)) (hS'.sub (List.sublist_append_right [_, _, _, _, _] _))) (by decide) (by decide) fun u _ => ?_))
               | ((refine z_isdst 64 ?_; refine o_loadrw tabOk (cells_rds 5 rfl) rfl rfl rfl (es := [.slice u.1 (rws r1).length u.2]) rfl (Nat.succ_pos _) (tq_setu Tp l ha _ _ _ _ _) (by decide) ?_))
               | ((refine z_isdst 65 ?_; refine o_callr rfl Try.func16 rfl rfl rfl (slen_s r1 _ _ _ (own_rds 0 rfl)) (by decide) ?_))
               | ((refine z_isdst 71 ?_; refine o_loadr tabOk (cells_rds 5 rfl) rfl rfl rfl (tq_pu Tp l ha _ _ _ _ _) (by decide) ?_))
               | ((refine z_isdst 77 ?_; refine o_build0 (t := 70) (v := .agg #[.int .u64 0, .int .i64 0, .slice none 0 0]) (fun _ => by kernel_rfl) (by decide) ?_))
               | (refine s_is ?_; first
               | (refine c_free0 ⟨[47, 48], []⟩ [0, 1, 2, 3, 4, 5, 6, 7] (id := 11) mixed (by kernel_rfl) ?_)
               | (refine c_free0t ⟨[58], []⟩ 9 [0, 1, 2, 3, 4, 5, 6, 7, 8] (id := 13) mixed (by kernel_rfl) rfl ?_)
               | (refine s_isret ?_; first
               | (exact f_r2 rfl (res_t (congrArg some (congrArg (Value.int .i64) hnn))) (res_t rfl) (upd Tp a Cq.zero, nw) ⟨fin_0 hsk (by rw [hr1]; exact hz1) hz2, halk.upd (rds_nil' _)⟩ rfl (fun w h => ((h.sel 6 [5, 0, 1, 2, 3, 4] (by decide)).mask [true, false, false, false, false, false]))))
               | (refine s_isw ?_; first
               | refine c_seq ?_
               | refine c_region ?_
               | refine c_mixed mixed (by kernel_rfl) ?_
               | refine c_skip ?_
               | refine c_ret ?_
               | refine c_exit ?_
               | (refine s_iscond ?_; first
               | (refine c_true rfl (by first | with_reducible rfl | with_reducible assumption | ((with_reducible refine decide_eq_true ?_); first | with_reducible rfl | with_reducible assumption | omega)) ?_)
               | (refine c_false rfl (by first | with_reducible rfl | with_reducible assumption | ((with_reducible refine decide_eq_false ?_); first | with_reducible assumption | omega)) ?_)))
               | refine z_tailm ?_)
               | (refine z_isg1 ?_; first
               | (refine z_want1 rfl rfl (by first | with_reducible rfl | with_reducible assumption | ((with_reducible refine decide_eq_true ?_); first | with_reducible rfl | with_reducible assumption | omega)) ?_))
               | (refine z_isnil ?_; first
               | refine z_list ?_
               | refine z_mixed ?_)
               | (refine z_isop ?_; first
               | refine o_nil rfl (by decide) ?_
               | refine o_indexm tabOk rfl rfl rfl rfl (by omega) (by omega) (by decide) ?_
               | (refine z_isbin ?_; first
               | (refine z_isb .eql ?_; first
               | refine o_eq rfl rfl (by decide) ?_)
               | (refine z_isb .lss ?_; first
               | refine o_lt rfl rfl (by decide) ?_)
               | (refine z_isb .gtr ?_; first
               | refine o_gt rfl rfl (by decide) ?_)
               | (refine z_isb .geq ?_; first
               | refine o_ge rfl rfl (by decide) ?_))
               | (refine z_isload ?_; first
               | (refine z_ld1 tabOk rfl rfl ?_; first
               | refine o_loadm tabOk rfl rfl rfl (by repeat' (first | exact List.mem_cons_self | apply List.mem_cons_of_mem)) (by first | exact tq_g _ _ (by omega) | exact tq_p _ _ (by omega) | exact tq_s _ _ (by omega) | exact tq_last _ _ | exact cq_g _ | exact cq_p _ | exact cq_s _ | rfl | rfl) (by decide) ?_)
               | (refine z_ldw tabOk rfl rfl ?_; first
               | (refine o_loadwm tabOk rfl rfl rfl (by repeat' (first | exact List.mem_cons_self | apply List.mem_cons_of_mem)) (by first | rfl | exact tq_len _ _ | exact cq_len _ | exact tqn_len _ | (simp only [tq_len, cq_len]; done) | rfl) (by decide) ?_)))
               | (refine z_isstore ?_; first
               | (refine o_storew_at rfl 5 tabOk rfl rfl rfl rfl (vs := [.slice u.1 (rws r1).length u.2]) rfl rfl (by rw [tq_len]; show a * 3 + 2 + 1 ≤ 193; omega) (tq_puts Tp l ha u.1 u.2 r1) ?_)
               | (refine o_storew_at rfl 5 tabOk rfl rfl rfl rfl (vs := [.int .u64 0, .int .i64 0, .slice none 0 0]) rfl rfl (by rw [tq_len]; show a * 3 + 3 ≤ 193; omega) (tq_zero_u Tp l ha _) ?_))
               | (refine z_ispick ?_; first
               | (refine o_pick1 rfl (by first | with_reducible rfl | with_reducible assumption | ((with_reducible refine decide_eq_true ?_); first | with_reducible rfl | with_reducible assumption | omega)) rfl (by decide) ?_))
               | refine o_move rfl (by decide) ?_
               | refine o_assign rfl (by decide) ?_
               | refine o_nil rfl (by decide) ?_
               | refine o_field0 tabOk rfl rfl rfl rfl rfl (by decide) ?_
               | refine o_field tabOk rfl rfl rfl rfl rfl (by decide) ?_))
            · have hzz : (al r1 1024).length = 0 → 0 ≤ (Tp a).p → False := fun _ e => hz2 e
              repeat' (first
               | ((refine z_isdst 45 ?_; refine o_loadrw tabOk (cells_rds 3 rfl) rfl rfl rfl (es := [.slice (Tp a).A (rws (Tp a).s).length (Tp a).c]) rfl (Nat.succ_pos _) (tq_set1 Tp l ha) (by decide) ?_))
               | ((refine z_isdst 47 ?_; refine o_callx1 Try.func41 rfl rfl rfl (both_s (Tp a).s S r2 hr2 _ _ _ _ _ ((halk a ha).sub (List.sublist_append_right [_, _, _, _] _)) (hS'.sub (List.sublist_append_right [_, _, _, _] _))) (by decide) (by decide) fun v _ => ?_))
               | ((refine z_isdst 48 ?_; refine o_callx0 Try.func16 rfl rfl rfl (slen_s r2 _ _ _ (own_rds 0 rfl)) (by decide) (by decide) ?_))
               | refine z_mono0w ?_
               | ((refine z_isdst 56 ?_; refine o_loadrw tabOk (cells_rds 4 rfl) rfl rfl rfl (es := [.slice (Tp a).A (rws (Tp a).s).length (Tp a).c]) rfl (Nat.succ_pos _) (tq_set1 Tp l ha) (by decide) ?_))
               | ((refine z_isdst 58 ?_; refine o_callx1 Try.func32 rfl rfl rfl (without_s (Tp a).s S r1 hr1 _ _ _ _ _ ((halk a ha).sub (List.sublist_append_right [_, _, _, _, _] _)) (hS'.sub (List.sublist_append_right [_, _, _, _, _] _))) (by decide) (by decide) fun u _ => ?_))
               | ((refine z_isdst 64 ?_; refine o_loadrw tabOk (cells_rds 5 rfl) rfl rfl rfl (es := [.slice u.1 (rws r1).length u.2]) rfl (Nat.succ_pos _) (tq_setu Tp l ha _ _ _ _ _) (by decide) ?_))
               | ((refine z_isdst 65 ?_; refine o_callr rfl Try.func16 rfl rfl rfl (slen_s r1 _ _ _ (own_rds 0 rfl)) (by decide) ?_))
               | ((refine z_isdst 71 ?_; refine o_loadr tabOk (cells_rds 5 rfl) rfl rfl rfl (tq_pu Tp l ha _ _ _ _ _) (by decide) ?_))
               | (refine s_is ?_; first
               | (refine c_free0 ⟨[47, 48], []⟩ [0, 1, 2, 3, 4, 5, 6, 7] (id := 11) mixed (by kernel_rfl) ?_)
               | (refine c_free0t ⟨[58], []⟩ 9 [0, 1, 2, 3, 4, 5, 6, 7, 8] (id := 13) mixed (by kernel_rfl) rfl ?_)
               | (refine s_isret ?_; first
               | (exact f_r2 rfl (res_t (congrArg some (congrArg (Value.int .i64) hnn))) (res_t rfl) (upd Tp a ⟨(Tp a).g, (Tp a).p, u.1, u.2, r1⟩, own u.1 u.2 75 2 (rws r1).length (rc (rws r1)) :: nw) ⟨by dsimp only; rw [← hr1]; exact fin_1 hsk (fun e => hzz (by rw [← hr1]; exact e.1) e.2) _ _, (halk.sub (List.sublist_cons_self _ _)).upd (own_rds 0 rfl)⟩ rfl (fun w h => ((h.sel 6 [5, 0, 1, 2, 3, 4] (by decide)).mask [true, true, false, false, false, false]))))
               | (refine s_isw ?_; first
               | refine c_seq ?_
               | refine c_region ?_
               | refine c_skip ?_
               | refine c_ret ?_
               | refine c_exit ?_
               | (refine s_iscond ?_; first
               | (refine c_false rfl (by first | with_reducible rfl | with_reducible assumption | ((with_reducible refine decide_eq_false ?_); first | with_reducible assumption | omega)) ?_)))
               | refine z_tailm ?_)
               | (refine z_isg1 ?_; first
               | (refine z_want1 rfl rfl (by first | with_reducible rfl | with_reducible assumption | ((with_reducible refine decide_eq_true ?_); first | with_reducible rfl | with_reducible assumption | omega)) ?_))
               | (refine z_isnil ?_; first
               | refine z_list ?_)
               | (refine z_isop ?_; first
               | refine o_nil rfl (by decide) ?_
               | (refine z_isbin ?_; first
               | (refine z_isb .eql ?_; first
               | refine o_eq rfl rfl (by decide) ?_)
               | (refine z_isb .lss ?_; first
               | refine o_lt rfl rfl (by decide) ?_)
               | (refine z_isb .gtr ?_; first
               | refine o_gt rfl rfl (by decide) ?_)
               | (refine z_isb .geq ?_; first
               | refine o_ge rfl rfl (by decide) ?_))
               | (refine z_isload ?_; first
               | (refine z_ldw tabOk rfl rfl ?_; first
               | (refine o_loadwm tabOk rfl rfl rfl (by repeat' (first | exact List.mem_cons_self | apply List.mem_cons_of_mem)) (by first | rfl | exact tq_len _ _ | exact cq_len _ | exact tqn_len _ | (simp only [tq_len, cq_len]; done) | rfl) (by decide) ?_)))
               | (refine z_isstore ?_; first
               | (refine o_storew_at rfl 5 tabOk rfl rfl rfl rfl (vs := [.slice u.1 (rws r1).length u.2]) rfl rfl (by rw [tq_len]; show a * 3 + 2 + 1 ≤ 193; omega) (tq_puts Tp l ha u.1 u.2 r1) ?_))
               | (refine z_ispick ?_; first
               | (refine o_pick1 rfl (by first | with_reducible rfl | with_reducible assumption | ((with_reducible refine decide_eq_true ?_); first | with_reducible rfl | with_reducible assumption | omega)) rfl (by decide) ?_))
               | refine o_move rfl (by decide) ?_
               | refine o_assign rfl (by decide) ?_
               | refine o_nil rfl (by decide) ?_
               | refine o_field tabOk rfl rfl rfl rfl rfl (by decide) ?_))
          · have hzz : (al r1 1024).length = 0 → 0 ≤ (Tp a).p → False := fun e _ => hz1 e
            repeat' (first
             | ((refine z_isdst 45 ?_; refine o_loadrw tabOk (cells_rds 3 rfl) rfl rfl rfl (es := [.slice (Tp a).A (rws (Tp a).s).length (Tp a).c]) rfl (Nat.succ_pos _) (tq_set1 Tp l ha) (by decide) ?_))
             | ((refine z_isdst 47 ?_; refine o_callx1 Try.func41 rfl rfl rfl (both_s (Tp a).s S r2 hr2 _ _ _ _ _ ((halk a ha).sub (List.sublist_append_right [_, _, _, _] _)) (hS'.sub (List.sublist_append_right [_, _, _, _] _))) (by decide) (by decide) fun v _ => ?_))
             | ((refine z_isdst 48 ?_; refine o_callx0 Try.func16 rfl rfl rfl (slen_s r2 _ _ _ (own_rds 0 rfl)) (by decide) (by decide) ?_))
             | refine z_mono0w ?_
             | ((refine z_isdst 56 ?_; refine o_loadrw tabOk (cells_rds 4 rfl) rfl rfl rfl (es := [.slice (Tp a).A (rws (Tp a).s).length (Tp a).c]) rfl (Nat.succ_pos _) (tq_set1 Tp l ha) (by decide) ?_))
             | ((refine z_isdst 58 ?_; refine o_callx1 Try.func32 rfl rfl rfl (without_s (Tp a).s S r1 hr1 _ _ _ _ _ ((halk a ha).sub (List.sublist_append_right [_, _, _, _, _] _)) (hS'.sub (List.sublist_append_right [_, _, _, _, _] _))) (by decide) (by decide) fun u _ => ?_))
             | ((refine z_isdst 64 ?_; refine o_loadrw tabOk (cells_rds 5 rfl) rfl rfl rfl (es := [.slice u.1 (rws r1).length u.2]) rfl (Nat.succ_pos _) (tq_setu Tp l ha _ _ _ _ _) (by decide) ?_))
             | ((refine z_isdst 65 ?_; refine o_callr rfl Try.func16 rfl rfl rfl (slen_s r1 _ _ _ (own_rds 0 rfl)) (by decide) ?_))
             | (refine s_is ?_; first
             | (refine c_free0 ⟨[47, 48], []⟩ [0, 1, 2, 3, 4, 5, 6, 7] (id := 11) mixed (by kernel_rfl) ?_)
             | (refine c_free0t ⟨[58], []⟩ 9 [0, 1, 2, 3, 4, 5, 6, 7, 8] (id := 13) mixed (by kernel_rfl) rfl ?_)
             | (refine s_isret ?_; first
             | (exact f_r2 rfl (res_t (congrArg some (congrArg (Value.int .i64) hnn))) (res_t rfl) (upd Tp a ⟨(Tp a).g, (Tp a).p, u.1, u.2, r1⟩, own u.1 u.2 75 2 (rws r1).length (rc (rws r1)) :: nw) ⟨by dsimp only; rw [← hr1]; exact fin_1 hsk (fun e => hzz (by rw [← hr1]; exact e.1) e.2) _ _, (halk.sub (List.sublist_cons_self _ _)).upd (own_rds 0 rfl)⟩ rfl (fun w h => ((h.sel 6 [5, 0, 1, 2, 3, 4] (by decide)).mask [true, true, false, false, false, false]))))
             | (refine s_isw ?_; first
             | refine c_seq ?_
             | refine c_region ?_
             | refine c_skip ?_
             | refine c_ret ?_
             | refine c_exit ?_
             | (refine s_iscond ?_; first
             | (refine c_false rfl (by first | with_reducible rfl | with_reducible assumption | ((with_reducible refine decide_eq_false ?_); first | with_reducible assumption | omega)) ?_)))
             | refine z_tailm ?_)
             | (refine z_isg1 ?_; first
             | (refine z_skip1 (by decide) rfl rfl (by first | with_reducible rfl | with_reducible assumption | ((with_reducible refine decide_eq_false ?_); first | with_reducible assumption | omega)) ?_))
             | (refine z_isnil ?_; first
             | refine z_list ?_)
             | (refine z_isop ?_; first
             | refine o_nil rfl (by decide) ?_
             | (refine z_isbin ?_; first
             | (refine z_isb .eql ?_; first
             | refine o_eq rfl rfl (by decide) ?_)
             | (refine z_isb .lss ?_; first
             | refine o_lt rfl rfl (by decide) ?_)
             | (refine z_isb .gtr ?_; first
             | refine o_gt rfl rfl (by decide) ?_))
             | (refine z_isload ?_; first
             | (refine z_ldw tabOk rfl rfl ?_; first
             | (refine o_loadwm tabOk rfl rfl rfl (by repeat' (first | exact List.mem_cons_self | apply List.mem_cons_of_mem)) (by first | rfl | exact tq_len _ _ | exact cq_len _ | exact tqn_len _ | (simp only [tq_len, cq_len]; done) | rfl) (by decide) ?_)))
             | (refine z_isstore ?_; first
             | (refine o_storew_at rfl 5 tabOk rfl rfl rfl rfl (vs := [.slice u.1 (rws r1).length u.2]) rfl rfl (by rw [tq_len]; show a * 3 + 2 + 1 ≤ 193; omega) (tq_puts Tp l ha u.1 u.2 r1) ?_))
             | (refine z_ispick ?_; first
             | (refine o_pick0 rfl (by first | with_reducible rfl | with_reducible assumption | ((with_reducible refine decide_eq_false ?_); first | with_reducible assumption | omega)) rfl (by decide) ?_))
             | refine o_move rfl (by decide) ?_
             | refine o_assign rfl (by decide) ?_
             | refine o_nil rfl (by decide) ?_
             | refine o_field tabOk rfl rfl rfl rfl rfl (by decide) ?_))
        · rw [cutC_1 hr2 h2] at hnE
          have hnn : ((nE : Nat) : Int) + 1 = (n : Int) := by omega
          by_cases hz1 : (al r1 1024).length = 0
          · by_cases hz2 : 0 ≤ (Tp a).p
            · skip
              repeat' (first
               | ((refine z_isdst 45 ?_; refine o_loadrw tabOk (cells_rds 3 rfl) rfl rfl rfl (es := [.slice (Tp a).A (rws (Tp a).s).length (Tp a).c]) rfl (Nat.succ_pos _) (tq_set1 Tp l ha) (by decide) ?_))
               | ((refine z_isdst 47 ?_; refine o_callx1 Try.func41 rfl rfl rfl (both_s (Tp a).s S r2 hr2 _ _ _ _ _ ((halk a ha).sub (List.sublist_append_right [_, _, _, _] _)) (hS'.sub (List.sublist_append_right [_, _, _, _] _))) (by decide) (by decide) fun v _ => ?_))
               | ((refine z_isdst 48 ?_; refine o_callx0 Try.func16 rfl rfl rfl (slen_s r2 _ _ _ (own_rds 0 rfl)) (by decide) (by decide) ?_))
               | refine z_mono0w ?_
               | ((refine z_isdst 56 ?_; refine o_loadrw tabOk (cells_rds 4 rfl) rfl rfl rfl (es := [.slice (Tp a).A (rws (Tp a).s).length (Tp a).c]) rfl (Nat.succ_pos _) (tq_set1 Tp l ha) (by decide) ?_))
               | ((refine z_isdst 58 ?_; refine o_callx1 Try.func32 rfl rfl rfl (without_s (Tp a).s S r1 hr1 _ _ _ _ _ ((halk a ha).sub (List.sublist_append_right [_, _, _, _, _] _)) (hS'.sub (List.sublist_append_right [_, _, _, _, _] _))) (by decide) (by decide) fun u _ => ?_))
               | ((refine z_isdst 64 ?_; refine o_loadrw tabOk (cells_rds 5 rfl) rfl rfl rfl (es := [.slice u.1 (rws r1).length u.2]) rfl (Nat.succ_pos _) (tq_setu Tp l ha _ _ _ _ _) (by decide) ?_))
               | ((refine z_isdst 65 ?_; refine o_callr rfl Try.func16 rfl rfl rfl (slen_s r1 _ _ _ (own_rds 0 rfl)) (by decide) ?_))
               | ((refine z_isdst 71 ?_; refine o_loadr tabOk (cells_rds 5 rfl) rfl rfl rfl (tq_pu Tp l ha _ _ _ _ _) (by decide) ?_))
               | ((refine z_isdst 77 ?_; refine o_build0 (t := 70) (v := .agg #[.int .u64 0, .int .i64 0, .slice none 0 0]) (fun _ => by kernel_rfl) (by decide) ?_))
               | (refine s_is ?_; first
               | (refine c_free0 ⟨[47, 48], []⟩ [0, 1, 2, 3, 4, 5, 6, 7] (id := 11) mixed (by kernel_rfl) ?_)
               | (refine c_free0t ⟨[58], []⟩ 9 [0, 1, 2, 3, 4, 5, 6, 7, 8] (id := 13) mixed (by kernel_rfl) rfl ?_)
               | (refine s_isret ?_; first
               | (exact f_r2 rfl (res_t (congrArg some (congrArg (Value.int .i64) hnn))) (res_t rfl) (upd Tp a Cq.zero, nw) ⟨fin_0 hsk (by rw [hr1]; exact hz1) hz2, halk.upd (rds_nil' _)⟩ rfl (fun w h => ((h.sel 6 [5, 0, 1, 2, 3, 4] (by decide)).mask [true, false, false, false, false, false]))))
               | (refine s_isw ?_; first
               | refine c_seq ?_
               | refine c_region ?_
               | refine c_mixed mixed (by kernel_rfl) ?_
               | refine c_ret ?_
               | refine c_exit ?_
               | (refine s_iscond ?_; first
               | (refine c_true rfl (by first | with_reducible rfl | with_reducible assumption | ((with_reducible refine decide_eq_true ?_); first | with_reducible rfl | with_reducible assumption | omega)) ?_)
               | (refine c_false rfl (by first | with_reducible rfl | with_reducible assumption | ((with_reducible refine decide_eq_false ?_); first | with_reducible assumption | omega)) ?_)))
               | refine z_tailm ?_)
               | (refine z_isg1 ?_; first
               | (refine z_want1 rfl rfl (by first | with_reducible rfl | with_reducible assumption | ((with_reducible refine decide_eq_true ?_); first | with_reducible rfl | with_reducible assumption | omega)) ?_))
               | (refine z_isnil ?_; first
               | refine z_list ?_
               | refine z_mixed ?_)
               | (refine z_isop ?_; first
               | refine o_nil rfl (by decide) ?_
               | refine o_indexm tabOk rfl rfl rfl rfl (by omega) (by omega) (by decide) ?_
               | (refine z_isbin ?_; first
               | (refine z_isb .add ?_; first
               | refine o_add rfl rfl (by omega) (by omega) (by decide) ?_)
               | (refine z_isb .eql ?_; first
               | refine o_eq rfl rfl (by decide) ?_)
               | (refine z_isb .lss ?_; first
               | refine o_lt rfl rfl (by decide) ?_)
               | (refine z_isb .gtr ?_; first
               | refine o_gt rfl rfl (by decide) ?_)
               | (refine z_isb .geq ?_; first
               | refine o_ge rfl rfl (by decide) ?_))
               | (refine z_isload ?_; first
               | (refine z_ld1 tabOk rfl rfl ?_; first
               | refine o_loadm tabOk rfl rfl rfl (by repeat' (first | exact List.mem_cons_self | apply List.mem_cons_of_mem)) (by first | exact tq_g _ _ (by omega) | exact tq_p _ _ (by omega) | exact tq_s _ _ (by omega) | exact tq_last _ _ | exact cq_g _ | exact cq_p _ | exact cq_s _ | rfl | rfl) (by decide) ?_)
               | (refine z_ldw tabOk rfl rfl ?_; first
               | (refine o_loadwm tabOk rfl rfl rfl (by repeat' (first | exact List.mem_cons_self | apply List.mem_cons_of_mem)) (by first | rfl | exact tq_len _ _ | exact cq_len _ | exact tqn_len _ | (simp only [tq_len, cq_len]; done) | rfl) (by decide) ?_)))
               | (refine z_isstore ?_; first
               | (refine o_storew_at rfl 5 tabOk rfl rfl rfl rfl (vs := [.slice u.1 (rws r1).length u.2]) rfl rfl (by rw [tq_len]; show a * 3 + 2 + 1 ≤ 193; omega) (tq_puts Tp l ha u.1 u.2 r1) ?_)
               | (refine o_storew_at rfl 5 tabOk rfl rfl rfl rfl (vs := [.int .u64 0, .int .i64 0, .slice none 0 0]) rfl rfl (by rw [tq_len]; show a * 3 + 3 ≤ 193; omega) (tq_zero_u Tp l ha _) ?_))
               | (refine z_ispick ?_; first
               | (refine o_pick1 rfl (by first | with_reducible rfl | with_reducible assumption | ((with_reducible refine decide_eq_true ?_); first | with_reducible rfl | with_reducible assumption | omega)) rfl (by decide) ?_))
               | refine o_move rfl (by decide) ?_
               | refine o_assign rfl (by decide) ?_
               | refine o_nil rfl (by decide) ?_
               | refine o_field0 tabOk rfl rfl rfl rfl rfl (by decide) ?_
               | refine o_field tabOk rfl rfl rfl rfl rfl (by decide) ?_))
            · have hzz : (al r1 1024).length = 0 → 0 ≤ (Tp a).p → False := fun _ e => hz2 e
              repeat' (first
               | ((refine z_isdst 45 ?_; refine o_loadrw tabOk (cells_rds 3 rfl) rfl rfl rfl (es := [.slice (Tp a).A (rws (Tp a).s).length (Tp a).c]) rfl (Nat.succ_pos _) (tq_set1 Tp l ha) (by decide) ?_))
               | ((refine z_isdst 47 ?_; refine o_callx1 Try.func41 rfl rfl rfl (both_s (Tp a).s S r2 hr2 _ _ _ _ _ ((halk a ha).sub (List.sublist_append_right [_, _, _, _] _)) (hS'.sub (List.sublist_append_right [_, _, _, _] _))) (by decide) (by decide) fun v _ => ?_))
               | ((refine z_isdst 48 ?_; refine o_callx0 Try.func16 rfl rfl rfl (slen_s r2 _ _ _ (own_rds 0 rfl)) (by decide) (by decide) ?_))
               | refine z_mono0w ?_
               | ((refine z_isdst 56 ?_; refine o_loadrw tabOk (cells_rds 4 rfl) rfl rfl rfl (es := [.slice (Tp a).A (rws (Tp a).s).length (Tp a).c]) rfl (Nat.succ_pos _) (tq_set1 Tp l ha) (by decide) ?_))
               | ((refine z_isdst 58 ?_; refine o_callx1 Try.func32 rfl rfl rfl (without_s (Tp a).s S r1 hr1 _ _ _ _ _ ((halk a ha).sub (List.sublist_append_right [_, _, _, _, _] _)) (hS'.sub (List.sublist_append_right [_, _, _, _, _] _))) (by decide) (by decide) fun u _ => ?_))
               | ((refine z_isdst 64 ?_; refine o_loadrw tabOk (cells_rds 5 rfl) rfl rfl rfl (es := [.slice u.1 (rws r1).length u.2]) rfl (Nat.succ_pos _) (tq_setu Tp l ha _ _ _ _ _) (by decide) ?_))
               | ((refine z_isdst 65 ?_; refine o_callr rfl Try.func16 rfl rfl rfl (slen_s r1 _ _ _ (own_rds 0 rfl)) (by decide) ?_))
               | ((refine z_isdst 71 ?_; refine o_loadr tabOk (cells_rds 5 rfl) rfl rfl rfl (tq_pu Tp l ha _ _ _ _ _) (by decide) ?_))
               | (refine s_is ?_; first
               | (refine c_free0 ⟨[47, 48], []⟩ [0, 1, 2, 3, 4, 5, 6, 7] (id := 11) mixed (by kernel_rfl) ?_)
               | (refine c_free0t ⟨[58], []⟩ 9 [0, 1, 2, 3, 4, 5, 6, 7, 8] (id := 13) mixed (by kernel_rfl) rfl ?_)
               | (refine s_isret ?_; first
               | (exact f_r2 rfl (res_t (congrArg some (congrArg (Value.int .i64) hnn))) (res_t rfl) (upd Tp a ⟨(Tp a).g, (Tp a).p, u.1, u.2, r1⟩, own u.1 u.2 75 2 (rws r1).length (rc (rws r1)) :: nw) ⟨by dsimp only; rw [← hr1]; exact fin_1 hsk (fun e => hzz (by rw [← hr1]; exact e.1) e.2) _ _, (halk.sub (List.sublist_cons_self _ _)).upd (own_rds 0 rfl)⟩ rfl (fun w h => ((h.sel 6 [5, 0, 1, 2, 3, 4] (by decide)).mask [true, true, false, false, false, false]))))
               | (refine s_isw ?_; first
               | refine c_seq ?_
               | refine c_region ?_
               | refine c_skip ?_
               | refine c_ret ?_
               | refine c_exit ?_
               | (refine s_iscond ?_; first
               | (refine c_true rfl (by first | with_reducible rfl | with_reducible assumption | ((with_reducible refine decide_eq_true ?_); first | with_reducible rfl | with_reducible assumption | omega)) ?_)
               | (refine c_false rfl (by first | with_reducible rfl | with_reducible assumption | ((with_reducible refine decide_eq_false ?_); first | with_reducible assumption | omega)) ?_)))
               | refine z_tailm ?_)
               | (refine z_isg1 ?_; first
               | (refine z_want1 rfl rfl (by first | with_reducible rfl | with_reducible assumption | ((with_reducible refine decide_eq_true ?_); first | with_reducible rfl | with_reducible assumption | omega)) ?_))
               | (refine z_isnil ?_; first
               | refine z_list ?_)
               | (refine z_isop ?_; first
               | refine o_nil rfl (by decide) ?_
               | (refine z_isbin ?_; first
               | (refine z_isb .add ?_; first
               | refine o_add rfl rfl (by omega) (by omega) (by decide) ?_)
               | (refine z_isb .eql ?_; first
               | refine o_eq rfl rfl (by decide) ?_)
               | (refine z_isb .lss ?_; first
               | refine o_lt rfl rfl (by decide) ?_)
               | (refine z_isb .gtr ?_; first
               | refine o_gt rfl rfl (by decide) ?_)
               | (refine z_isb .geq ?_; first
               | refine o_ge rfl rfl (by decide) ?_))
               | (refine z_isload ?_; first
               | (refine z_ldw tabOk rfl rfl ?_; first
               | (refine o_loadwm tabOk rfl rfl rfl (by repeat' (first | exact List.mem_cons_self | apply List.mem_cons_of_mem)) (by first | rfl | exact tq_len _ _ | exact cq_len _ | exact tqn_len _ | (simp only [tq_len, cq_len]; done) | rfl) (by decide) ?_)))
               | (refine z_isstore ?_; first
               | (refine o_storew_at rfl 5 tabOk rfl rfl rfl rfl (vs := [.slice u.1 (rws r1).length u.2]) rfl rfl (by rw [tq_len]; show a * 3 + 2 + 1 ≤ 193; omega) (tq_puts Tp l ha u.1 u.2 r1) ?_))
               | (refine z_ispick ?_; first
               | (refine o_pick1 rfl (by first | with_reducible rfl | with_reducible assumption | ((with_reducible refine decide_eq_true ?_); first | with_reducible rfl | with_reducible assumption | omega)) rfl (by decide) ?_))
               | refine o_move rfl (by decide) ?_
               | refine o_assign rfl (by decide) ?_
               | refine o_nil rfl (by decide) ?_
               | refine o_field tabOk rfl rfl rfl rfl rfl (by decide) ?_))
          · have hzz : (al r1 1024).length = 0 → 0 ≤ (Tp a).p → False := fun e _ => hz1 e
            repeat' (first
             | ((refine z_isdst 45 ?_; refine o_loadrw tabOk (cells_rds 3 rfl) rfl rfl rfl (es := [.slice (Tp a).A (rws (Tp a).s).length (Tp a).c]) rfl (Nat.succ_pos _) (tq_set1 Tp l ha) (by decide) ?_))
             | ((refine z_isdst 47 ?_; refine o_callx1 Try.func41 rfl rfl rfl (both_s (Tp a).s S r2 hr2 _ _ _ _ _ ((halk a ha).sub (List.sublist_append_right [_, _, _, _] _)) (hS'.sub (List.sublist_append_right [_, _, _, _] _))) (by decide) (by decide) fun v _ => ?_))
             | ((refine z_isdst 48 ?_; refine o_callx0 Try.func16 rfl rfl rfl (slen_s r2 _ _ _ (own_rds 0 rfl)) (by decide) (by decide) ?_))
             | refine z_mono0w ?_
             | ((refine z_isdst 56 ?_; refine o_loadrw tabOk (cells_rds 4 rfl) rfl rfl rfl (es := [.slice (Tp a).A (rws (Tp a).s).length (Tp a).c]) rfl (Nat.succ_pos _) (tq_set1 Tp l ha) (by decide) ?_))
             | ((refine z_isdst 58 ?_; refine o_callx1 Try.func32 rfl rfl rfl (without_s (Tp a).s S r1 hr1 _ _ _ _ _ ((halk a ha).sub (List.sublist_append_right [_, _, _, _, _] _)) (hS'.sub (List.sublist_append_right [_, _, _, _, _] _))) (by decide) (by decide) fun u _ => ?_))
             | ((refine z_isdst 64 ?_; refine o_loadrw tabOk (cells_rds 5 rfl) rfl rfl rfl (es := [.slice u.1 (rws r1).length u.2]) rfl (Nat.succ_pos _) (tq_setu Tp l ha _ _ _ _ _) (by decide) ?_))
             | ((refine z_isdst 65 ?_; refine o_callr rfl Try.func16 rfl rfl rfl (slen_s r1 _ _ _ (own_rds 0 rfl)) (by decide) ?_))
             | (refine s_is ?_; first
             | (refine c_free0 ⟨[47, 48], []⟩ [0, 1, 2, 3, 4, 5, 6, 7] (id := 11) mixed (by kernel_rfl) ?_)
             | (refine c_free0t ⟨[58], []⟩ 9 [0, 1, 2, 3, 4, 5, 6, 7, 8] (id := 13) mixed (by kernel_rfl) rfl ?_)
             | (refine s_isret ?_; first
             | (exact f_r2 rfl (res_t (congrArg some (congrArg (Value.int .i64) hnn))) (res_t rfl) (upd Tp a ⟨(Tp a).g, (Tp a).p, u.1, u.2, r1⟩, own u.1 u.2 75 2 (rws r1).length (rc (rws r1)) :: nw) ⟨by dsimp only; rw [← hr1]; exact fin_1 hsk (fun e => hzz (by rw [← hr1]; exact e.1) e.2) _ _, (halk.sub (List.sublist_cons_self _ _)).upd (own_rds 0 rfl)⟩ rfl (fun w h => ((h.sel 6 [5, 0, 1, 2, 3, 4] (by decide)).mask [true, true, false, false, false, false]))))
             | (refine s_isw ?_; first
             | refine c_seq ?_
             | refine c_region ?_
             | refine c_skip ?_
             | refine c_ret ?_
             | refine c_exit ?_
             | (refine s_iscond ?_; first
             | (refine c_true rfl (by first | with_reducible rfl | with_reducible assumption | ((with_reducible refine decide_eq_true ?_); first | with_reducible rfl | with_reducible assumption | omega)) ?_)
             | (refine c_false rfl (by first | with_reducible rfl | with_reducible assumption | ((with_reducible refine decide_eq_false ?_); first | with_reducible assumption | omega)) ?_)))
             | refine z_tailm ?_)
             | (refine z_isg1 ?_; first
             | (refine z_skip1 (by decide) rfl rfl (by first | with_reducible rfl | with_reducible assumption | ((with_reducible refine decide_eq_false ?_); first | with_reducible assumption | omega)) ?_))
             | (refine z_isnil ?_; first
             | refine z_list ?_)
             | (refine z_isop ?_; first
             | refine o_nil rfl (by decide) ?_
             | (refine z_isbin ?_; first
             | (refine z_isb .add ?_; first
             | refine o_add rfl rfl (by omega) (by omega) (by decide) ?_)
             | (refine z_isb .eql ?_; first
             | refine o_eq rfl rfl (by decide) ?_)
             | (refine z_isb .lss ?_; first
             | refine o_lt rfl rfl (by decide) ?_)
             | (refine z_isb .gtr ?_; first
             | refine o_gt rfl rfl (by decide) ?_))
             | (refine z_isload ?_; first
             | (refine z_ldw tabOk rfl rfl ?_; first
             | (refine o_loadwm tabOk rfl rfl rfl (by repeat' (first | exact List.mem_cons_self | apply List.mem_cons_of_mem)) (by first | rfl | exact tq_len _ _ | exact cq_len _ | exact tqn_len _ | (simp only [tq_len, cq_len]; done) | rfl) (by decide) ?_)))
             | (refine z_isstore ?_; first
             | (refine o_storew_at rfl 5 tabOk rfl rfl rfl rfl (vs := [.slice u.1 (rws r1).length u.2]) rfl rfl (by rw [tq_len]; show a * 3 + 2 + 1 ≤ 193; omega) (tq_puts Tp l ha u.1 u.2 r1) ?_))
             | (refine z_ispick ?_; first
             | (refine o_pick0 rfl (by first | with_reducible rfl | with_reducible assumption | ((with_reducible refine decide_eq_false ?_); first | with_reducible assumption | omega)) rfl (by decide) ?_))
             | refine o_move rfl (by decide) ?_
             | refine o_assign rfl (by decide) ?_
             | refine o_nil rfl (by decide) ?_
             | refine o_field tabOk rfl rfl rfl rfl rfl (by decide) ?_))
    · rw [if_neg hi]
      obtain ⟨rfl, rfl⟩ := ctF_out hi h
      repeat' (first
       | ((refine z_isdst 18 ?_; refine o_callr rfl Try.func31 rfl rfl rfl (node_no T2 l a g b _ (cells_rds 2 rfl) (fun e => hi (hsm.symm.isN e))) (by decide) ?_))
       | ((refine z_isdst 4 ?_; refine o_boxa (vs := [.int .i64 (a : Nat), .int .u64 g]) rfl rfl (by decide) fun gc => ?_))
       | ((refine z_isdst 5 ?_; refine o_boxa (vs := [.slice Sx (rws S).length sc]) rfl rfl (by decide) fun gs => ?_))
       | (refine s_is ?_; first
       | (refine s_isret ?_; first
       | exact f_r2 rfl (res_t rfl) (res_t rfl) (T2, []) ⟨hsm, hal⟩ rfl (fun w h => ((h.sel 3 [2, 0, 1] (by decide)).mask [true, false, false])))
       | (refine s_isw ?_; first
       | refine c_seq ?_
       | refine c_region ?_
       | refine c_ret ?_
       | (refine s_iscond ?_; first
       | (refine c_true rfl (by first | (simp only [Bool.not_eq_true', decide_eq_false_iff_not]; omega) | (with_reducible assumption) | (rw [decide_eq_false] <;> (first | omega | with_reducible rfl)) | (rw [decide_eq_true] <;> (first | omega | with_reducible rfl)) | (simp; done) | (simp; omega)) ?_)))
       | refine x_then_ret ?_)
       | (refine z_isnil ?_; first
       | refine z_list ?_)
       | (refine z_isop ?_; first
       | (refine z_isload ?_; first
       | (refine z_ldw tabOk rfl rfl ?_; first
       | (refine o_loadwm tabOk rfl rfl rfl (by repeat' (first | exact List.mem_cons_self | apply List.mem_cons_of_mem)) (by first | rfl | exact tq_len _ _ | exact cq_len _ | exact tqn_len _ | (simp only [tq_len, cq_len]; done) | rfl) (by decide) ?_)))
       | refine o_move rfl (by decide) ?_
       | refine o_assign rfl (by decide) ?_
       | refine o_extract rfl rfl (by decide) ?_
       | refine o_not rfl (by decide) ?_))
end Go.Proofs.Ytfegdehgnhomnaa
