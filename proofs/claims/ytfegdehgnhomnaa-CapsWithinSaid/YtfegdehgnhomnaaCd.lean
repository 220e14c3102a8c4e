/-
Caps: the document's tree: its cells; what it tells.
-/
import Derived.Test.YtfegdehgnhomnaaCa5
import Derived.Test.YtfegdehgnhomnaaEngA
namespace Go.Proofs.Ytfegdehgnhomnaa
set_option linter.unusedVariables false
set_option linter.unusedSimpArgs false
open Eng
/-- The cells of a node of the document. -/
def dcs (x : Cq) : List Value := .int .u64 x.g :: .int .i64 x.p :: bs x.s
theorem dcs_len (x : Cq) : (dcs x).length = 1026 := by simp [dcs, bs_len]
theorem dcs_zero0 : dcs Cq.zero = .int .u64 0 :: .int .i64 0 :: bs (fun _ => false) := rfl
theorem dcs_one (x : Cq) : (dcs x).all (·.oneCell') = true := by
  unfold dcs
  rw [List.all_cons, List.all_cons, bs_one]; rfl
theorem dcs_g (x : Cq) : (dcs x)[0]? = some (.int .u64 x.g) := rfl
theorem dcs_p (x : Cq) : (dcs x)[1]? = some (.int .i64 x.p) := rfl
theorem dcs_s (x : Cq) (j : Nat) : (dcs x)[2 + j]? = (bs x.s)[j]? := by
  unfold dcs
  rw [show 2 + j = j + 1 + 1 by omega, List.getElem?_cons_succ, List.getElem?_cons_succ]
def dnn (T : Tq) : List Value := ((List.range 64).map T).flatMap dcs
theorem dnn_len (T : Tq) : (dnn T).length = 65664 := by
  unfold dnn
  rw [flat_len dcs 1026 dcs_len, List.length_map, List.length_range]
theorem dnn_get (T : Tq) {i j : Nat} (h : i < 64) (hj : j < 1026) : (dnn T)[i * 1026 + j]? = (dcs (T i))[j]? := flat_get dcs 1026 dcs_len _ i j (T i) (by simp [h]) hj
theorem dnn_g (T : Tq) {i : Nat} (h : i < 64) : (dnn T)[i * 1026 + 0]? = some (.int .u64 (T i).g) := (dnn_get T h (by omega)).trans (dcs_g _)
theorem dnn_p (T : Tq) {i : Nat} (h : i < 64) : (dnn T)[i * 1026 + 1]? = some (.int .i64 (T i).p) := (dnn_get T h (by omega)).trans (dcs_p _)
theorem dnn_at (T : Tq) {i j : Nat} {v : Value} (h : i < 64) (hj : j < 1026) (e : (dcs (T i))[j]? = some v) : (dnn T)[i * 1026 + j]? = some v := (dnn_get T h hj).trans e
theorem dnn_s (T : Tq) {i : Nat} (h : i < 64) : ∀ (j : Nat) u, (bs (T i).s)[j]? = some u → (dnn T)[i * 1026 + 2 + j]? = some u := fun j u hu => by
  have hj : j < 1024 := by rw [← bs_len (T i).s]; exact (List.getElem?_eq_some_iff.1 hu).1
  rw [Nat.add_assoc, dnn_get T h (by omega), dcs_s, hu]
theorem dnn_el (T : Tq) {i : Nat} (h : i < 64) : ∀ (j : Nat) u, (dcs (T i))[j]? = some u → (dnn T)[i * 1026 + j]? = some u := fun j u hu => by
  have hj : j < 1026 := by rw [← dcs_len (T i)]; exact (List.getElem?_eq_some_iff.1 hu).1
  rw [dnn_get T h hj, hu]
theorem dnn_one (T : Tq) : (dnn T).all (·.oneCell') = true := by
  rw [List.all_eq_true]
  intro v hv
  unfold dnn at hv
  obtain ⟨x, _, hx⟩ := List.mem_flatMap.1 hv
  exact List.all_eq_true.1 (dcs_one x) v hx
theorem dnn_ext {L : List Value} {T : Tq} (hl : L.length = 65664) (h : ∀ i j, i < 64 → j < 1026 → L[i * 1026 + j]? = (dcs (T i))[j]?) : L = dnn T := by
  refine List.ext_getElem? fun q => ?_
  by_cases hq : q < 65664
  · have h3 := h (q / 1026) (q % 1026) (by omega) (by omega)
    have h4 := dnn_get T (i := q / 1026) (j := q % 1026) (by omega) (by omega)
    rw [show q / 1026 * 1026 + q % 1026 = q by omega] at h3 h4
    rw [h3, h4]
  · rw [List.getElem?_eq_none (by omega), List.getElem?_eq_none (by rw [dnn_len]; omega)]
theorem dnn_put (T : Tq) {i : Nat} (h : i < 64) (x : Cq) : (dnn T).take (i * 1026) ++ dcs x ++ (dnn T).drop (i * 1026 + 1026) = dnn (upd T i x) := by
  refine dnn_ext (by simp [dnn_len, dcs_len]; omega) (fun i' j' hi' hj' => ?_)
  unfold upd
  by_cases h1 : i' < i
  · rw [if_neg (by omega), List.append_assoc, List.getElem?_append_left (by simp [dnn_len]; omega), List.getElem?_take_of_lt (by omega), dnn_get T hi' hj']
  · by_cases h2 : i' = i
    · subst h2
      rw [if_pos rfl, List.getElem?_append_left (by simp [dnn_len, dcs_len]; omega), List.getElem?_append_right (by simp [dnn_len]; omega), List.length_take, dnn_len, Nat.min_eq_left (by omega), show i' * 1026 + j' - i' * 1026 = j' by omega]
    · rw [if_neg h2, List.getElem?_append_right (by simp [dnn_len, dcs_len]; omega), List.getElem?_drop, List.length_append, List.length_take, dnn_len, dcs_len, Nat.min_eq_left (by omega), show i * 1026 + 1026 + (i' * 1026 + j' - (i * 1026 + 1026)) = i' * 1026 + j' by omega, dnn_get T hi' hj']
theorem dnn_putx (T : Tq) {i : Nat} (h : i < 64) (g p : Int) (A : Option Addr) (c : Nat) (s : Nat → Bool) : (dnn T).take (((i : Int)).toNat * 1026) ++ (.int .u64 g :: .int .i64 p :: bs s) ++ (dnn T).drop (((i : Int)).toNat * 1026 + 1026) = dnn (upd T i ⟨g, p, A, c, s⟩) := dnn_put T h ⟨g, p, A, c, s⟩
theorem dnn_made : (madeCells (dcs Cq.zero).toArray (64 * 1026)).toList = dnn (fun _ => Cq.zero) := by
  refine dnn_ext (by rw [made_len]) fun i j hi hj => ?_
  rw [made_get _ (by omega) (by rw [dcs_len]; omega), dcs_len, Nat.mul_comm i, Nat.mul_add_mod, Nat.mod_eq_of_lt hj]
def dt (b : Nat) (l : Int) : List Value := [.slice (some ⟨b, 0, none⟩) 64 64, .int .u64 l]
theorem dt_len (b : Nat) (l : Int) : (dt b l).length = 2 := rfl
theorem dt_one (b : Nat) (l : Int) : (dt b l).all (·.oneCell') = true := rfl
theorem dt_n (b : Nat) (l : Int) : (dt b l)[0]? = some (.slice (some ⟨b, 0, none⟩) 64 64) := rfl
theorem dt_l (b : Nat) (l : Int) : (dt b l)[1]? = some (.int .u64 l) := rfl
theorem dt_set (b : Nat) (l l' : Int) : (dt b l).set 1 (.int .u64 l') = dt b l' := rfl
/-- Is a place under another one, as far as so many steps tell? -/
def undF (T : Tq) (a : Int) : Nat → Nat → Bool
  | 0, _ => false
  | n + 1, i => if (T i).g = 0 then false else if (T i).p = a then true else if (T i).p < 0 then false else undF T a n (T i).p.toNat
theorem undF_zero (T : Tq) (a : Int) (i : Nat) : undF T a 0 i = false := rfl
theorem undF_dead {T : Tq} {a : Int} {n i : Nat} (h : (T i).g = 0) : undF T a n i = false := by
  cases n with
  | zero => rfl
  | succ n => simp only [undF]; rw [if_pos h]
theorem undF_kid {T : Tq} {a : Int} {n i : Nat} (h : (T i).g ≠ 0) (hp : (T i).p = a) : undF T a (n + 1) i = true := by simp only [undF]; rw [if_neg h, if_pos hp]
theorem undF_top {T : Tq} {a : Int} {n i : Nat} (h : (T i).g ≠ 0) (hp : (T i).p ≠ a) (h0 : (T i).p < 0) : undF T a (n + 1) i = false := by simp only [undF]; rw [if_neg h, if_neg hp, if_pos h0]
theorem undF_up {T : Tq} {a : Int} {n i : Nat} (h : (T i).g ≠ 0) (hp : (T i).p ≠ a) (h0 : ¬ (T i).p < 0) : undF T a (n + 1) i = undF T a n (T i).p.toNat := by simp only [undF]; rw [if_neg h, if_neg hp, if_neg h0]
/-- What those of the first n places that are derived from one have. -/
def dl (T : Tq) (a : Int) : Nat → Nat → Bool
  | 0 => fun _ => false
  | n + 1 => if (T n).g ≠ 0 ∧ (T n).p = a then layS 0 (dl T a n) (T n).s else dl T a n
theorem dl_zero (T : Tq) (a : Int) : dl T a 0 = fun _ => false := rfl
theorem dl_yes {T : Tq} {a : Int} {n : Nat} (h : (T n).g ≠ 0 ∧ (T n).p = a) : layS 0 (dl T a n) (T n).s = dl T a (n + 1) := by simp only [dl]; rw [if_pos h]
theorem dl_no {T : Tq} {a : Int} {n : Nat} (h : ¬ ((T n).g ≠ 0 ∧ (T n).p = a)) : dl T a (n + 1) = dl T a n := by simp only [dl]; rw [if_neg h]
theorem isN_out {T : Tq} {a g : Int} (h : ¬ isN T a g) (h0 : 0 ≤ a) (h1 : a < 64) (h2 : g ≠ 0) : (T a.toNat).g ≠ g := fun e => h ⟨h0, h1, h2, e⟩
theorem isN_in {T : Tq} {a g : Int} (h : isN T a g) : 0 ≤ a ∧ a < 64 ∧ g ≠ 0 ∧ (T a.toNat).g = g := h
theorem isN_no {T : Tq} {a g : Int} (h : ¬ (0 ≤ a ∧ a < 64 ∧ g ≠ 0)) : ¬ isN T a g := fun e => h ⟨e.1, e.2.1, e.2.2.1⟩
theorem isN_no2 {T : Tq} {a g : Int} (h : (T a.toNat).g ≠ g) : ¬ isN T a g := fun e => h e.2.2.2
/-- Numbers of places and generations are as they should be. -/
structure Nm (T : Tq) : Prop where
  g0 : ∀ i, i < 64 → 0 ≤ (T i).g
  p1 : ∀ i, i < 64 → (T i).g ≠ 0 → (T i).p < 64
attribute [local irreducible] Eng.Hold Eng.Z Eng.S Eng.cells Eng.old Eng.own rc rws tq tqn Cq.cs emp dcs dnn dt bs layS al undF isN dl
theorem dis_c (T : Tq) (l a g : Int) (b nb : Nat) (fr : List Chunk) (hD : Rds fr (some ⟨b, 0, none⟩) (dt nb l)) (hN : Rds fr (some ⟨nb, 0, none⟩) (dnn T)) (hg : 0 ≤ g) : Does Try.prog 27 [.pointer (some ⟨b, 0, none⟩), .int .i64 a, .int .u64 g] fr (fun _ : Unit => True) (fun _ => .bool (decide (isN T a g))) (fun _ => fr) := by
  intro w hw
  refine f_enter Try.func27 rfl Try.ntmps27 rfl hw ?_
  by_cases h0 : 0 ≤ a
  · by_cases h1 : a < 64
    · by_cases h2 : g = 0
      · have hn := decide_eq_false (isN_no (T := T) (a := a) (g := g) (fun e => e.2.2 h2))
        rw [hn]
        repeat' (first
         | (refine s_is ?_; first
         | (refine s_isret ?_; first
         | exact f_r1 rfl (res_t rfl) () trivial rfl (fun w h => h))
         | (refine s_isw ?_; first
         | refine c_seq ?_
         | refine c_region ?_
         | refine c_ret ?_))
         | (refine z_isg1 ?_; first
         | (refine z_want1 rfl rfl (by first | with_reducible rfl | with_reducible assumption | ((with_reducible refine decide_eq_true ?_); first | with_reducible rfl | with_reducible assumption | omega)) ?_)
         | (refine z_skip1 (by decide) rfl rfl (by first | with_reducible rfl | with_reducible assumption | ((with_reducible refine decide_eq_false ?_); first | with_reducible assumption | omega)) ?_))
         | (refine z_isnil ?_; first
         | refine z_list ?_)
         | (refine z_isop ?_; first
         | (refine z_isbin ?_; first
         | (refine z_isb .lss ?_; first
         | refine o_lt rfl rfl (by decide) ?_)
         | (refine z_isb .gtr ?_; first
         | refine o_gt rfl rfl (by decide) ?_)
         | (refine z_isb .geq ?_; first
         | refine o_ge rfl rfl (by decide) ?_))
         | (refine z_ispick ?_; first
         | (refine o_pick1 rfl (by first | with_reducible rfl | with_reducible assumption | ((with_reducible refine decide_eq_true ?_); first | with_reducible rfl | with_reducible assumption | omega)) rfl (by decide) ?_)
         | (refine o_pick0 rfl (by first | with_reducible rfl | with_reducible assumption | ((with_reducible refine decide_eq_false ?_); first | with_reducible assumption | omega)) rfl (by decide) ?_))
         | refine o_move rfl (by decide) ?_
         | refine o_assign rfl (by decide) ?_))
      · by_cases h3 : (T a.toNat).g = g
        · have hn := decide_eq_true (show isN T a g from by unfold isN; exact ⟨h0, h1, h2, h3⟩)
          rw [hn]
          repeat' (first
           | (refine s_is ?_; first
           | (refine s_isret ?_; first
           | exact f_r1 rfl (res_t (congrArg some (congrArg Value.bool (decide_eq_true h3)))) () trivial rfl (fun w h => h))
           | (refine s_isw ?_; first
           | refine c_seq ?_
           | refine c_region ?_
           | refine c_ret ?_))
           | (refine z_isg1 ?_; first
           | (refine z_want1 rfl rfl (by first | with_reducible rfl | with_reducible assumption | ((with_reducible refine decide_eq_true ?_); first | with_reducible rfl | with_reducible assumption | omega)) ?_))
           | (refine z_isnil ?_; first
           | refine z_list ?_)
           | (refine z_isop ?_; first
           | refine o_indexskm tabOk rfl rfl rfl rfl (by omega) (by omega) (by decide) ?_
           | (refine z_isbin ?_; first
           | (refine z_isb .eql ?_; first
           | refine o_eq rfl rfl (by decide) ?_)
           | (refine z_isb .lss ?_; first
           | refine o_lt rfl rfl (by decide) ?_)
           | (refine z_isb .gtr ?_; first
           | refine o_gt rfl rfl (by decide) ?_)
           | (refine z_isb .geq ?_; first
           | refine o_ge rfl rfl (by decide) ?_))
           | (refine z_isload ?_; first
           | refine o_loadr tabOk (by first | exact hD | exact hN | exact hD.sub (List.sublist_append_right [_] _) | exact hN.sub (List.sublist_append_right [_] _) | exact hD.sub (List.sublist_append_right [_, _] _) | exact hN.sub (List.sublist_append_right [_, _] _) | exact hD.sub (List.sublist_append_right [_, _, _] _) | exact hN.sub (List.sublist_append_right [_, _, _] _) | assumption) rfl rfl rfl (by first | exact dt_l _ _ | exact dt_n _ _ | exact dnn_at _ (by omega) (by omega) (dcs_g _) | exact dnn_at _ (by omega) (by omega) (dcs_p _) | rfl | rfl) (by decide) ?_)
           | (refine z_ispick ?_; first
           | (refine o_pick1 rfl (by first | with_reducible rfl | with_reducible assumption | ((with_reducible refine decide_eq_true ?_); first | with_reducible rfl | with_reducible assumption | omega)) rfl (by decide) ?_))
           | refine o_move rfl (by decide) ?_
           | refine o_assign rfl (by decide) ?_
           | refine o_nil rfl (by decide) ?_
           | refine o_field0 tabOk rfl rfl rfl rfl rfl (by decide) ?_
           | refine o_field tabOk rfl rfl rfl rfl rfl (by decide) ?_))
        · have hn := decide_eq_false (isN_no2 h3)
          rw [hn]
          repeat' (first
           | (refine s_is ?_; first
           | (refine s_isret ?_; first
           | exact f_r1 rfl (res_t (congrArg some (congrArg Value.bool (decide_eq_false h3)))) () trivial rfl (fun w h => h))
           | (refine s_isw ?_; first
           | refine c_seq ?_
           | refine c_region ?_
           | refine c_ret ?_))
           | (refine z_isg1 ?_; first
           | (refine z_want1 rfl rfl (by first | with_reducible rfl | with_reducible assumption | ((with_reducible refine decide_eq_true ?_); first | with_reducible rfl | with_reducible assumption | omega)) ?_))
           | (refine z_isnil ?_; first
           | refine z_list ?_)
           | (refine z_isop ?_; first
           | refine o_indexskm tabOk rfl rfl rfl rfl (by omega) (by omega) (by decide) ?_
           | (refine z_isbin ?_; first
           | (refine z_isb .eql ?_; first
           | refine o_eq rfl rfl (by decide) ?_)
           | (refine z_isb .lss ?_; first
           | refine o_lt rfl rfl (by decide) ?_)
           | (refine z_isb .gtr ?_; first
           | refine o_gt rfl rfl (by decide) ?_)
           | (refine z_isb .geq ?_; first
           | refine o_ge rfl rfl (by decide) ?_))
           | (refine z_isload ?_; first
           | refine o_loadr tabOk (by first | exact hD | exact hN | exact hD.sub (List.sublist_append_right [_] _) | exact hN.sub (List.sublist_append_right [_] _) | exact hD.sub (List.sublist_append_right [_, _] _) | exact hN.sub (List.sublist_append_right [_, _] _) | exact hD.sub (List.sublist_append_right [_, _, _] _) | exact hN.sub (List.sublist_append_right [_, _, _] _) | assumption) rfl rfl rfl (by first | exact dt_l _ _ | exact dt_n _ _ | exact dnn_at _ (by omega) (by omega) (dcs_g _) | exact dnn_at _ (by omega) (by omega) (dcs_p _) | rfl | rfl) (by decide) ?_)
           | (refine z_ispick ?_; first
           | (refine o_pick1 rfl (by first | with_reducible rfl | with_reducible assumption | ((with_reducible refine decide_eq_true ?_); first | with_reducible rfl | with_reducible assumption | omega)) rfl (by decide) ?_))
           | refine o_move rfl (by decide) ?_
           | refine o_assign rfl (by decide) ?_
           | refine o_nil rfl (by decide) ?_
           | refine o_field0 tabOk rfl rfl rfl rfl rfl (by decide) ?_
           | refine o_field tabOk rfl rfl rfl rfl rfl (by decide) ?_))
    · have hn := decide_eq_false (isN_no (T := T) (a := a) (g := g) (fun e => h1 e.2.1))
      rw [hn]
      repeat' (first
       | (refine s_is ?_; first
       | (refine s_isret ?_; first
       | exact f_r1 rfl (res_t rfl) () trivial rfl (fun w h => h))
       | (refine s_isw ?_; first
       | refine c_seq ?_
       | refine c_region ?_
       | refine c_ret ?_))
       | (refine z_isg1 ?_; first
       | (refine z_want1 rfl rfl (by first | with_reducible rfl | with_reducible assumption | ((with_reducible refine decide_eq_true ?_); first | with_reducible rfl | with_reducible assumption | omega)) ?_)
       | (refine z_skip1 (by decide) rfl rfl (by first | with_reducible rfl | with_reducible assumption | ((with_reducible refine decide_eq_false ?_); first | with_reducible assumption | omega)) ?_))
       | (refine z_isnil ?_; first
       | refine z_list ?_)
       | (refine z_isop ?_; first
       | (refine z_isbin ?_; first
       | (refine z_isb .lss ?_; first
       | refine o_lt rfl rfl (by decide) ?_)
       | (refine z_isb .geq ?_; first
       | refine o_ge rfl rfl (by decide) ?_))
       | (refine z_ispick ?_; first
       | (refine o_pick1 rfl (by first | with_reducible rfl | with_reducible assumption | ((with_reducible refine decide_eq_true ?_); first | with_reducible rfl | with_reducible assumption | omega)) rfl (by decide) ?_)
       | (refine o_pick0 rfl (by first | with_reducible rfl | with_reducible assumption | ((with_reducible refine decide_eq_false ?_); first | with_reducible assumption | omega)) rfl (by decide) ?_))
       | refine o_move rfl (by decide) ?_
       | refine o_assign rfl (by decide) ?_))
  · have hn := decide_eq_false (isN_no (T := T) (a := a) (g := g) (fun e => h0 e.1))
    rw [hn]
    repeat' (first
     | (refine s_is ?_; first
     | (refine s_isret ?_; first
     | exact f_r1 rfl (res_t rfl) () trivial rfl (fun w h => h))
     | (refine s_isw ?_; first
     | refine c_seq ?_
     | refine c_region ?_
     | refine c_ret ?_))
     | (refine z_isg1 ?_; first
     | (refine z_skip1 (by decide) rfl rfl (by first | with_reducible rfl | with_reducible assumption | ((with_reducible refine decide_eq_false ?_); first | with_reducible assumption | omega)) ?_))
     | (refine z_isnil ?_; first
     | refine z_list ?_)
     | (refine z_isop ?_; first
     | (refine z_isbin ?_; first
     | (refine z_isb .geq ?_; first
     | refine o_ge rfl rfl (by decide) ?_))
     | (refine z_ispick ?_; first
     | (refine o_pick0 rfl (by first | with_reducible rfl | with_reducible assumption | ((with_reducible refine decide_eq_false ?_); first | with_reducible assumption | omega)) rfl (by decide) ?_))
     | refine o_move rfl (by decide) ?_
     | refine o_assign rfl (by decide) ?_))
end Go.Proofs.Ytfegdehgnhomnaa
