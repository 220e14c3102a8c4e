/-
Span: whether a number is of a set; how many there are; one row.
-/
import Derived.Test.YtfegdehgnhomnaaSp1
namespace Go.Proofs.Ytfegdehgnhomnaa
set_option linter.unusedVariables false
set_option linter.unusedSimpArgs false
open Eng
/-- Rows as they are made. -/
structure Okr (R : List Rw) : Prop where
  s : Sep (-1) R
  l : lastTo (-1) R ≤ 1024
theorem rws_ok (s : Nat → Bool) : Okr (rws s) := ⟨rws_sep s, rws_last s⟩
theorem Okr.len {R : List Rw} (h : Okr R) : R.length ≤ 512 := by
  have h1 := sep_len h.s
  have h2 := h.l
  omega
theorem to_le {lo : Int} : ∀ {R : List Rw}, Sep lo R → ∀ k, k < R.length → (at' R k).2 ≤ lastTo lo R := by
  intro R
  induction R generalizing lo with
  | nil => intro _ k h; simp at h
  | cons r R ih =>
    intro h k hk
    cases k with
    | zero => exact lastTo_ge h.2.2
    | succ k => exact ih h.2.2 k (by simpa using hk)
theorem Okr.row {R : List Rw} (h : Okr R) {k : Nat} (hk : k < R.length) : 0 ≤ (at' R k).1 ∧ (at' R k).1 < (at' R k).2 ∧ (at' R k).2 ≤ 1024 := by
  have h1 := sep_at h.s k hk
  have h2 := to_le h.s k hk
  have h3 := h.l
  omega
/-- How many numbers the first k rows have. -/
def lenN (R : List Rw) : Nat → Int
  | 0 => 0
  | k + 1 => lenN R k + ((at' R k).2 - (at' R k).1)
theorem lenN_zero (R : List Rw) : lenN R 0 = 0 := rfl
theorem lenN_succ (R : List Rw) (k : Nat) : lenN R (k + 1) = lenN R k + ((at' R k).2 - (at' R k).1) := rfl
theorem lenN_le {R : List Rw} (h : Okr R) : ∀ k, k ≤ R.length → 0 ≤ lenN R k ∧ lenN R k ≤ 1024 * (k : Int)
  | 0, _ => ⟨Int.le_refl _, Int.le_refl _⟩
  | k + 1, hk => by
    have h1 := lenN_le h k (by omega)
    have h2 := h.row (k := k) (by omega)
    rw [lenN_succ]
    omega
/-- One row, or none. -/
def ofR (f t : Int) : List Rw := if min t 1024 ≤ max f 0 then [] else [(max f 0, min t 1024)]
theorem ofR_no {f t : Int} (h : min t 1024 ≤ max f 0) : ofR f t = [] := by unfold ofR; rw [if_pos h]
theorem ofR_yes {f t : Int} (h : ¬ (min t 1024 ≤ max f 0)) : ofR f t = [(max f 0, min t 1024)] := by unfold ofR; rw [if_neg h]
theorem ofR_ok (f t : Int) : Okr (ofR f t) := by
  by_cases h : min t 1024 ≤ max f 0
  · rw [ofR_no h]; exact ⟨trivial, by show (-1 : Int) ≤ 1024; omega⟩
  · rw [ofR_yes h]; exact ⟨⟨by show (-1 : Int) < max f 0; omega, by show max f 0 < min t 1024; omega, trivial⟩, by show min t 1024 ≤ 1024; omega⟩
theorem ofR_has (f t j : Int) : hasB (ofR f t) j = (decide (f ≤ j) && decide (j < t) && decide (0 ≤ j) && decide (j < 1024)) := by
  by_cases h : min t 1024 ≤ max f 0
  · rw [ofR_no h, has_nil]
    by_cases a : f ≤ j <;> by_cases b : j < t <;> by_cases c : 0 ≤ j <;> by_cases d : j < 1024 <;> simp [a, b, c, d] <;> omega
  · rw [ofR_yes h, has_cons, has_nil]
    by_cases a : f ≤ j <;> by_cases b : j < t <;> by_cases c : 0 ≤ j <;> by_cases d : j < 1024 <;> by_cases e : max f 0 ≤ j <;> by_cases g : j < min t 1024 <;> simp [a, b, c, d, e, g] <;> omega
attribute [local irreducible] Eng.Hold Eng.Z Eng.S Eng.cells Eng.old Eng.own rc rcs at' hasB Sep lastTo push
attribute [local irreducible] cmpR lenN ofR
theorem has_c (R : List Rw) (lo : Int) (hs : Sep lo R) (A : Option Addr) (c : Nat) (n : Int) (fr : List Chunk) (hrd : Rds fr A (rc R)) (hx : R.length ≤ 1000000) : Does Try.prog 21 [.agg #[.slice A R.length c], .int .i64 n] fr (fun _ : Unit => True) (fun _ => .bool (hasB R n)) (fun _ => fr) := by
  intro w hw
  refine f_enter Try.func21 rfl Try.ntmps21 rfl hw ?_
  cases hb : hasB R n with
  | true =>
    repeat' (first
     | (refine s_is ?_; first
     | (refine s_isret ?_; first
     | exact f_r1 rfl (res_t rfl) () trivial (by rw [decide_eq_true (by omega)]) (fun w h => ((h.sel 1 [0] (by decide)).mask [false])))
     | (refine s_isw ?_; first
     | refine c_seq ?_
     | refine c_region ?_
     | refine c_ret ?_))
     | (refine z_isg1 ?_; first
     | (refine z_want1 rfl rfl (by first | with_reducible rfl | with_reducible assumption | ((with_reducible refine decide_eq_true ?_); first | with_reducible rfl | with_reducible assumption | omega)) ?_))
     | (refine z_isnil ?_; first
     | refine z_list ?_)
     | (refine z_isop ?_; first
     | refine o_boxa (vs := [.slice A R.length c]) rfl rfl (by decide) fun g => ?_
     | (refine z_isbin ?_; first
     | (refine z_isb .lss ?_; first
     | refine o_lt rfl rfl (by decide) ?_))
     | (refine z_isload ?_; first
     | (refine z_ld1 tabOk rfl rfl ?_; first
     | refine o_loadm tabOk rfl rfl rfl (by repeat' (first | exact List.mem_cons_self | apply List.mem_cons_of_mem)) (by first | exact rc_f _ (by omega) | exact rc_t _ (by omega) | exact rcs_f _ | exact rcs_t _ | rfl | rfl) (by decide) ?_))
     | (refine z_iscall ?_; first
     | ((refine z_iscallf 39 ?_; refine o_calla Try.func39 rfl rfl rfl (bins_c R lo hs _ _ _ _ (by first | exact hrd | exact Rds.cons _ hrd | exact Rds.cons _ (Rds.cons _ hrd) | exact Rds.cons _ (Rds.cons _ (Rds.cons _ hrd)) | exact own_rds 0 rfl | exact own_rds 1 rfl | exact own_rds 2 rfl | assumption) (by omega)) (by decide) fun i hi => ?_; rw [hb] at hi ⊢; replace hi := hi rfl)))
     | (refine z_ispick ?_; first
     | (refine o_pick1 rfl (by first | with_reducible rfl | with_reducible assumption | ((with_reducible refine decide_eq_true ?_); first | with_reducible rfl | with_reducible assumption | omega)) rfl (by decide) ?_))
     | (refine z_isbi ?_; first
     | refine o_len tabOk rfl rfl (by decide) ?_)
     | refine o_move rfl (by decide) ?_
     | refine o_assign rfl (by decide) ?_
     | refine o_extract rfl rfl (by decide) ?_
     | refine o_field0 tabOk rfl rfl rfl rfl rfl (by decide) ?_))
  | false =>
    repeat' (first
     | (refine s_is ?_; first
     | (refine s_isret ?_; first
     | exact f_r1 rfl (res_t rfl) () trivial rfl (fun w h => ((h.sel 1 [0] (by decide)).mask [false])))
     | (refine s_isw ?_; first
     | refine c_seq ?_
     | refine c_region ?_
     | refine c_ret ?_))
     | (refine z_isg1 ?_; first
     | (refine z_skip1 (by decide) rfl rfl (by first | with_reducible rfl | with_reducible assumption | ((with_reducible refine decide_eq_false ?_); first | with_reducible assumption | omega)) ?_))
     | (refine z_isnil ?_; first
     | refine z_list ?_)
     | (refine z_isop ?_; first
     | refine o_boxa (vs := [.slice A R.length c]) rfl rfl (by decide) fun g => ?_
     | (refine z_isload ?_; first
     | (refine z_ld1 tabOk rfl rfl ?_; first
     | refine o_loadm tabOk rfl rfl rfl (by repeat' (first | exact List.mem_cons_self | apply List.mem_cons_of_mem)) (by first | exact rc_f _ (by omega) | exact rc_t _ (by omega) | exact rcs_f _ | exact rcs_t _ | rfl | rfl) (by decide) ?_))
     | (refine z_iscall ?_; first
     | ((refine z_iscallf 39 ?_; refine o_calla Try.func39 rfl rfl rfl (bins_c R lo hs _ _ _ _ (by first | exact hrd | exact Rds.cons _ hrd | exact Rds.cons _ (Rds.cons _ hrd) | exact Rds.cons _ (Rds.cons _ (Rds.cons _ hrd)) | exact own_rds 0 rfl | exact own_rds 1 rfl | exact own_rds 2 rfl | assumption) (by omega)) (by decide) fun i hi => ?_; rw [hb])))
     | (refine z_ispick ?_; first
     | (refine o_pick0 rfl (by first | with_reducible rfl | with_reducible assumption | ((with_reducible refine decide_eq_false ?_); first | with_reducible assumption | omega)) rfl (by decide) ?_))
     | refine o_move rfl (by decide) ?_
     | refine o_assign rfl (by decide) ?_
     | refine o_extract rfl rfl (by decide) ?_
     | refine o_field0 tabOk rfl rfl rfl rfl rfl (by decide) ?_))
theorem slen_c (R : List Rw) (hR : Okr R) (A : Option Addr) (c : Nat) (fr : List Chunk) (hrd : Rds fr A (rc R)) : Does Try.prog 16 [.agg #[.slice A R.length c]] fr (fun _ : Unit => True) (fun _ => .int .i64 (lenN R R.length)) (fun _ => fr) := by
  intro w hw
  have hne := rc_ne hrd hw
  have hx := hR.len
  refine f_enter Try.func16 rfl Try.ntmps16 rfl hw ?_
  repeat' (first
   | (refine s_is ?_; first
   | (refine s_isw ?_; first
   | (refine s_isloop ?_; first
   | ((refine c_loop (X := Nat) (fun k => k ≤ R.length) (fun k => [(3, .int .i64 (lenN R k)), (7, .slice A R.length c), (8, .int .i64 R.length), (9, .int .i64 k)]) (fun _ => fr) (fun k => R.length - k) 0 (Nat.zero_le _) ⟨(by rw [lenN_zero]; rfl), rfl, rfl, rfl, trivial⟩ (fun w h => ((h.sel 1 [0] (by decide)).mask [false])) (fun k hk => ?_); refine hold ?_)))
   | refine c_seq ?_
   | refine c_block ?_
   | refine c_region ?_))
   | (refine z_isnil ?_; first
   | refine z_list ?_)
   | (refine z_isop ?_; first
   | refine o_boxa (vs := [.slice A R.length c]) rfl rfl (by decide) fun g => ?_
   | (refine z_isload ?_; first
   | (refine z_ld1 tabOk rfl rfl ?_; first
   | refine o_loadm tabOk rfl rfl rfl (by repeat' (first | exact List.mem_cons_self | apply List.mem_cons_of_mem)) (by first | exact rc_f _ (by omega) | exact rc_t _ (by omega) | exact rcs_f _ | exact rcs_t _ | rfl | rfl) (by decide) ?_))
   | (refine z_isbi ?_; first
   | refine o_len tabOk rfl rfl (by decide) ?_)
   | refine o_move rfl (by decide) ?_
   | refine o_assign rfl (by decide) ?_
   | refine o_field0 tabOk rfl rfl rfl rfl rfl (by decide) ?_))
  refine Hold.go ?_
  by_cases hl : k < R.length
  · have h1 := lenN_le hR k hk
    have h2 := hR.row hl
    have h3 := lenN_succ R k
    repeat' (first
     | (refine s_is ?_; first
     | (refine s_isagain ?_; first
     | (exact c_again (k + 1) (by omega) (by omega) ⟨(by rw [h3]; rfl), rfl, rfl, rfl, trivial⟩ (fun w h => ((h.sel 1 [0] (by decide)).mask [false]))))
     | (refine s_isw ?_; first
     | refine c_seq ?_
     | refine c_block ?_
     | refine c_region ?_
     | refine c_skip ?_
     | (refine s_iscond ?_; first
     | (refine c_true rfl (by first | with_reducible rfl | with_reducible assumption | ((with_reducible refine decide_eq_true ?_); first | with_reducible rfl | with_reducible assumption | omega)) ?_))))
     | (refine z_isnil ?_; first
     | refine z_list ?_)
     | (refine z_isop ?_; first
     | refine o_indexsn tabOk (hne (by omega)) rfl rfl rfl rfl (by omega) (by omega) (by decide) ?_
     | refine o_alloca (e := 75) (vs := rcs (0, 0)) rfl (by kernel_rfl) (by decide) fun g2 => ?_
     | (refine z_isbin ?_; first
     | (refine z_isb .add ?_; first
     | refine o_add rfl rfl (by omega) (by omega) (by decide) ?_)
     | (refine z_isb .sub ?_; first
     | refine o_sub rfl rfl (by omega) (by omega) (by decide) ?_)
     | (refine z_isb .lss ?_; first
     | refine o_lt rfl rfl (by decide) ?_))
     | (refine z_isload ?_; first
     | (refine o_loadsw tabOk (by first | exact hrd | exact Rds.cons _ hrd | exact Rds.cons _ (Rds.cons _ hrd) | exact Rds.cons _ (Rds.cons _ (Rds.cons _ hrd)) | exact own_rds 0 rfl | exact own_rds 1 rfl | exact own_rds 2 rfl | assumption) rfl rfl rfl (es := rcs (at' R k)) (rcs_len _) (by rw [rcs_len]; decide) (fun j u hu => by rw [Int.toNat_natCast]; exact rc_el R (by omega) j u hu) (by decide) ?_)
     | (refine z_ld1 tabOk rfl rfl ?_; first
     | refine o_loadm tabOk rfl rfl rfl (by repeat' (first | exact List.mem_cons_self | apply List.mem_cons_of_mem)) (by first | exact rc_f _ (by omega) | exact rc_t _ (by omega) | exact rcs_f _ | exact rcs_t _ | rfl | rfl) (by decide) ?_))
     | (refine z_isstore ?_; first
     | (refine z_stw rfl ?_; first
     | ((refine z_sti 0 rfl rfl ?_; refine o_storeb0 rfl tabOk rfl rfl rfl (by first | rfl | exact rcs_len _ | exact rc_len _ | (simp only [rc_len, rcs_len]; done) | rfl) (by first | rfl | exact rcs_one _ | exact rc_one _ | rfl) (by first | rfl | exact rcs_len _ | exact rc_len _ | (simp only [rc_len, rcs_len]; done) | rfl) ?_))))
     | refine o_move rfl (by decide) ?_
     | refine o_assign rfl (by decide) ?_
     | refine o_field0 tabOk rfl rfl rfl rfl rfl (by decide) ?_))
  · obtain rfl : k = R.length := by omega
    repeat' (first
     | (refine s_is ?_; first
     | (refine s_isret ?_; first
     | exact f_r1 rfl (res_t rfl) () trivial rfl (fun w h => h))
     | (refine s_isw ?_; first
     | refine c_seq ?_
     | refine c_region ?_
     | refine c_ret ?_
     | refine c_exit ?_
     | (refine s_iscond ?_; first
     | (refine c_false rfl (by first | with_reducible rfl | with_reducible assumption | ((with_reducible refine decide_eq_false ?_); first | with_reducible assumption | omega)) ?_))))
     | (refine z_isnil ?_; first
     | refine z_list ?_)
     | (refine z_isop ?_; first
     | (refine z_isbin ?_; first
     | (refine z_isb .lss ?_; first
     | refine o_lt rfl rfl (by decide) ?_))
     | refine o_move rfl (by decide) ?_
     | refine o_assign rfl (by decide) ?_))
theorem of_c (f t : Int) (fr : List Chunk) : Does Try.prog 8 [.int .i64 f, .int .i64 t] fr (fun _ : Option Addr × Nat => True) (fun x => .agg #[.slice x.1 (ofR f t).length x.2]) (fun x => own x.1 x.2 75 2 (ofR f t).length (rc (ofR f t)) :: fr) := by
  intro w hw
  refine f_enter Try.func8 rfl Try.ntmps8 rfl hw ?_
  by_cases h : min t 1024 ≤ max f 0
  · rw [ofR_no h]
    repeat' (first
     | (refine s_is ?_; first
     | (refine s_isret ?_; first
     | (exact f_r1 rfl (res_c tabOk rfl rfl rfl 0 rfl rfl) (none, 0) trivial rfl (fun w h => by rw [rc_nil]; exact ((h.sel 1 [0] (by decide)).mask [false]).nil 75 2)))
     | (refine s_isw ?_; first
     | refine c_seq ?_
     | refine c_region ?_
     | refine c_ret ?_
     | (refine s_iscond ?_; first
     | (refine c_true rfl (by first | with_reducible rfl | with_reducible assumption | ((with_reducible refine decide_eq_true ?_); first | with_reducible rfl | with_reducible assumption | omega)) ?_)))
     | refine x_then_ret ?_)
     | (refine z_isnil ?_; first
     | refine z_list ?_)
     | (refine z_isop ?_; first
     | refine o_alloca (e := 31) (vs := [.slice none 0 0]) rfl (by kernel_rfl) (by decide) fun g => ?_
     | refine o_build0 (t := 31) (v := .agg #[.slice none 0 0]) (fun _ => by kernel_rfl) (by decide) ?_
     | (refine z_isbin ?_; first
     | (refine z_isb .geq ?_; first
     | refine o_ge rfl rfl (by decide) ?_))
     | (refine z_isstore ?_; first
     | (refine z_stw rfl ?_; first
     | ((refine z_sti 0 rfl rfl ?_; refine o_storeb0 rfl tabOk rfl rfl rfl (by first | rfl | exact rcs_len _ | exact rc_len _ | (simp only [rc_len, rcs_len]; done) | rfl) (by first | rfl | exact rcs_one _ | exact rc_one _ | rfl) (by first | rfl | exact rcs_len _ | exact rc_len _ | (simp only [rc_len, rcs_len]; done) | rfl) ?_))))
     | (refine z_isbi ?_; first
     | refine o_min rfl rfl (by decide) ?_
     | refine o_max rfl rfl (by decide) ?_)
     | refine o_move rfl (by decide) ?_
     | refine o_assign rfl (by decide) ?_))
  · rw [ofR_yes h]
    repeat' (first
     | (refine s_is ?_; first
     | (refine s_isret ?_; first
     | (exact f_r1 rfl (res_c tabOk rfl rfl rfl 1 rfl rfl) (some ⟨g3, 0, none⟩, 1) trivial rfl (fun w h => by rw [rc_mk]; exact ((h.sel 2 [0, 1] (by decide)).mask [true, false]))))
     | (refine s_isw ?_; first
     | refine c_seq ?_
     | refine c_region ?_
     | refine c_skip ?_
     | refine c_ret ?_
     | (refine s_iscond ?_; first
     | (refine c_false rfl (by first | with_reducible rfl | with_reducible assumption | ((with_reducible refine decide_eq_false ?_); first | with_reducible assumption | omega)) ?_))))
     | (refine z_isnil ?_; first
     | refine z_list ?_)
     | (refine z_isop ?_; first
     | refine o_makew (vs := [.int .i64 (max f 0), .int .i64 (min t 1024)]) rfl tabOk zeroOk rfl rfl rfl rfl rfl rfl rfl (by decide) fun g3 => ?_
     | (refine o_buildf (t := 75) (zs := [.int .i64 0, .int .i64 0]) (vs := [.int .i64 (max f 0), .int .i64 (min t 1024)]) tabOk rfl rfl (by kernel_rfl) rfl ⟨_, _, rfl, rfl, Nat.le_of_ble_eq_true rfl, _, _, rfl, rfl, Nat.le_of_ble_eq_true rfl, rfl⟩ (by decide) ?_)
     | (refine o_buildf (t := 31) (zs := [.slice none 0 0]) (vs := [.slice (some ⟨g3, 0, none⟩) 1 1]) tabOk rfl rfl (by kernel_rfl) rfl ⟨_, _, rfl, rfl, by decide, rfl⟩ (by decide) ?_)
     | refine o_alloca (e := 31) (vs := [.slice none 0 0]) rfl (by kernel_rfl) (by decide) fun g => ?_
     | (refine z_isbin ?_; first
     | (refine z_isb .geq ?_; first
     | refine o_ge rfl rfl (by decide) ?_))
     | (refine z_isstore ?_; first
     | (refine z_stw rfl ?_; first
     | ((refine z_sti 1 rfl rfl ?_; refine o_storeb1 rfl tabOk rfl rfl rfl (by first | rfl | exact rcs_len _ | exact rc_len _ | (simp only [rc_len, rcs_len]; done) | rfl) (by first | rfl | exact rcs_one _ | exact rc_one _ | rfl) (by first | rfl | exact rcs_len _ | exact rc_len _ | (simp only [rc_len, rcs_len]; done) | rfl) ?_))))
     | (refine z_isbi ?_; first
     | refine o_min rfl rfl (by decide) ?_
     | refine o_max rfl rfl (by decide) ?_)
     | refine o_move rfl (by decide) ?_
     | refine o_assign rfl (by decide) ?_))
end Go.Proofs.Ytfegdehgnhomnaa
