/-
Span: the first numbers of a set.
-/
import Derived.Test.YtjjhlkjnjbagfaaSpQ
namespace Go.Proofs.Ytjjhlkjnjbagfaa
set_option linter.unusedVariables false
set_option linter.unusedSimpArgs false
open Eng
theorem sep_take {lo : Int} : ∀ {R : List Rw} (k : Nat), Sep lo R → Sep lo (R.take k) ∧ lastTo lo (R.take k) ≤ lastTo lo R := by
  intro R
  induction R generalizing lo with
  | nil => intro k h; rw [List.take_nil]; exact ⟨h, Int.le_refl _⟩
  | cons r R ih =>
    intro k h
    cases k with
    | zero => exact ⟨trivial, lastTo_ge h⟩
    | succ k =>
      obtain ⟨h1, h2, h3⟩ := h
      obtain ⟨g1, g2⟩ := ih k h3
      exact ⟨⟨h1, h2, g1⟩, g2⟩
theorem okr_take {R : List Rw} (h : Okr R) (k : Nat) : Okr (R.take k) := by
  obtain ⟨h1, h2⟩ := sep_take k h.s
  have := h.l
  exact ⟨h1, by omega⟩
theorem at_take {R : List Rw} {k i : Nat} (h : i < k) : at' (R.take k) i = at' R i := by
  unfold at'
  simp only [List.getD_eq_getElem?_getD, List.getElem?_take, h, if_true]
theorem nm_take {R : List Rw} {k : Nat} : ∀ m, m ≤ k → nm (R.take k) m = nm R m
  | 0, _ => rfl
  | m + 1, h => by rw [nm_succ, nm_succ, nm_take m (by omega), at_take (show m < k by omega)]
theorem nm_app1 {R : List Rw} {r : Rw} : ∀ m, m ≤ R.length → nm (R ++ [r]) m = nm R m
  | 0, _ => rfl
  | m + 1, h => by
    have e : at' (R ++ [r]) m = at' R m := by
      unfold at'
      simp only [List.getD_eq_getElem?_getD]
      rw [List.getElem?_append_left (by omega)]
    rw [nm_succ, nm_succ, nm_app1 m (by omega), e]
theorem at_last (R : List Rw) (r : Rw) : at' (R ++ [r]) R.length = r := by
  unfold at'; simp
theorem nm_pre (R : List Rw) {k : Nat} : ∀ m, k ≤ m → ∃ t, nm R m = nm R k ++ t
  | 0, h => ⟨[], by rw [show k = 0 by omega]; simp⟩
  | m + 1, h => by
    by_cases e : k = m + 1
    · subst e; exact ⟨[], by simp⟩
    · obtain ⟨t, ht⟩ := nm_pre R (k := k) m (by omega)
      exact ⟨t ++ rg (at' R m).1 ((at' R m).2 - (at' R m).1).toNat, by rw [nm_succ, ht, List.append_assoc]⟩
theorem rg_pre (f : Int) {m : Nat} : ∀ M, m ≤ M → ∃ t, rg f M = rg f m ++ t
  | 0, h => ⟨[], by rw [show m = 0 by omega]; simp⟩
  | M + 1, h => by
    by_cases e : m = M + 1
    · subst e; exact ⟨[], by simp⟩
    · obtain ⟨t, ht⟩ := rg_pre f (m := m) M (by omega)
      exact ⟨t ++ [f + (M : Int)], by rw [rg_succ, ht, List.append_assoc]⟩
/-- The rows of the first n numbers. -/
structure Fst (R : List Rw) (n : Int) (O : List Rw) : Prop where
  o : Okr O
  e : nm O O.length = (nm R R.length).take n.toNat
  h : ∀ j, hasB O j = true → hasB R j = true
theorem has_take {R : List Rw} {k : Nat} {j : Int} (h : hasB (R.take k) j = true) : hasB R j = true := by
  obtain ⟨r, hr, h2⟩ := List.any_eq_true.1 h
  exact List.any_eq_true.2 ⟨r, List.mem_of_mem_take hr, h2⟩
/-- As many rows as are had whole. -/
theorem fst_whole {R : List Rw} (hR : Okr R) {k : Nat} (hk : k ≤ R.length) {n : Int} (hn : n = lenN R k ∨ (k = R.length ∧ lenN R k ≤ n) ∨ (k = 0 ∧ n ≤ 0)) : Fst R n (R.take k) := by
  have hl := nm_len hR k hk
  have hlen : (R.take k).length = k := by rw [List.length_take]; omega
  refine ⟨okr_take hR k, ?_, fun j => has_take⟩
  rw [hlen, nm_take k (Nat.le_refl _)]
  obtain ⟨t, ht⟩ := nm_pre R (k := k) R.length hk
  rcases hn with hn | ⟨rfl, hn⟩ | ⟨rfl, hn⟩
  · rw [ht, show n.toNat = (nm R k).length by omega]; simp
  · rw [List.take_of_length_le (by omega)]
  · rw [show n.toNat = 0 by omega]; rfl
/-- A row had in part. -/
theorem fst_part {R : List Rw} (hR : Okr R) {k : Nat} (hk : k < R.length) {n m : Int} (hm : m = n - lenN R k) (h0 : 0 < m) (h1 : m < (at' R k).2 - (at' R k).1) : Fst R n (R.take k ++ [((at' R k).1, (at' R k).1 + m)]) := by
  have hl := nm_len hR k (by omega)
  have hlen : (R.take k).length = k := by rw [List.length_take]; omega
  have hrow := hR.row hk
  have hsn : R.take (k + 1) = R.take k ++ [((at' R k).1, (at' R k).2)] := by rw [List.take_add_one, at_get hk]; rfl
  have ht1 := (okr_take hR (k + 1)).s
  rw [hsn] at ht1
  obtain ⟨s1, s2, s3⟩ := sep_init ht1
  refine ⟨⟨sep_snoc s1 s2 (by omega), by rw [lastTo_snoc]; show (at' R k).1 + m ≤ 1024; omega⟩, ?_, fun j hj => ?_⟩
  · rw [List.length_append, List.length_singleton, nm_succ, nm_app1 _ (Nat.le_refl _), at_last, hlen, nm_take k (Nat.le_refl _)]
    obtain ⟨t, ht⟩ := nm_pre R (k := k + 1) R.length (by omega)
    rw [ht, nm_succ]
    obtain ⟨t2, ht2⟩ := rg_pre (at' R k).1 (m := m.toNat) ((at' R k).2 - (at' R k).1).toNat (by omega)
    rw [ht2]
    have e1 : ((at' R k).1 + m - (at' R k).1).toNat = m.toNat := by omega
    show nm R k ++ rg (at' R k).1 ((at' R k).1 + m - (at' R k).1).toNat = _
    rw [e1]
    have e2 : n.toNat = (nm R k ++ rg (at' R k).1 m.toNat).length := by
      rw [List.length_append, rg_len]; have := lenN_le hR k (by omega); omega
    rw [e2, ← List.append_assoc, List.append_assoc, List.take_left]
  · rw [has_app, Bool.or_eq_true] at hj
    rcases hj with hj | hj
    · exact has_take hj
    · rw [has_cons, has_nil, Bool.or_false, Bool.and_eq_true, decide_eq_true_eq, decide_eq_true_eq] at hj
      exact has_iff.2 ⟨k, hk, hj.1, by have h2 : j < (at' R k).1 + m := hj.2; omega⟩
attribute [local irreducible] Eng.Hold Eng.Z Eng.S Eng.cells Eng.old Eng.own rc rcs at' hasB Sep lastTo push
attribute [local irreducible] cmpR lenN ofR en mg cu ilS rg nm
set_option maxHeartbeats 4000000 in
theorem first_c (R : List Rw) (hR : Okr R) (A : Option Addr) (c : Nat) (n : Int) (hn0 : -9223372036854775808 ≤ n) (hn1 : n ≤ 9223372036854775807) (fr : List Chunk) (hrd : Rds fr A (rc R)) :
    Does Try.prog 30 [.agg #[.slice A R.length c], .int .i64 n] fr (fun x : Option Addr × Nat × List Rw => Fst R n x.2.2) (fun x => .agg #[.slice x.1 x.2.2.length x.2.1]) (fun x => own x.1 x.2.1 84 2 x.2.2.length (rc x.2.2) :: fr) := by
  intro w hw
  have hne := rc_ne hrd hw
  have hx := hR.len
  refine f_enter Try.func30 rfl Try.ntmps30 rfl hw ?_
  repeat' (first
   | ((refine z_isdst 14 ?_; refine o_indexsn tabOk (hne (by omega)) rfl rfl rfl rfl (by omega) (by omega) (by decide) ?_))
   | ((refine z_isdst 15 ?_; refine o_loadsw tabOk (by repeat (first | exact hrd | apply Rds.cons)) rfl rfl rfl (es := rcs (at' R k)) (rcs_len _) (by rw [rcs_len]; decide) (fun j u hu => by rw [Int.toNat_natCast]; exact rc_el R (by omega) j u hu) (by decide) ?_))
   | ((refine z_isdst 4 ?_; refine o_alloca (e := 47) (vs := [.slice none 0 0]) rfl (by kernel_rfl) (by decide) fun g4 => ?_))
   | ((refine z_isdst 5 ?_; refine o_alloca (e := 47) (vs := [.slice none 0 0]) rfl (by kernel_rfl) (by decide) fun g5 => ?_))
   | (refine s_is ?_; first
   | (refine s_isw ?_; first
   | (refine s_isloop ?_; first
   | ((refine c_loop (X := Option Addr × Nat × Nat × List Rw × Int) (fun y => y.2.2.1 ≤ R.length ∧ y.2.2.2.1.length ≤ y.2.2.1 ∧ ((y.2.2.2.1 = R.take y.2.2.1 ∧ y.2.2.2.2 = n - lenN R y.2.2.1 ∧ (y.2.2.1 = 0 ∨ 0 ≤ y.2.2.2.2)) ∨ (y.2.2.2.2 = 0 ∧ Fst R n y.2.2.2.1))) (fun y => [(1, .int .i64 y.2.2.2.2), (4, .pointer (some ⟨g4, 0, none⟩)), (5, .pointer (some ⟨g5, 0, none⟩)), (10, .slice A R.length c), (11, .int .i64 R.length), (12, .int .i64 y.2.2.1)]) (fun y => cells g5 47 [.slice y.1 y.2.2.2.1.length y.2.1] :: own y.1 y.2.1 84 2 y.2.2.2.1.length (rc y.2.2.2.1) :: cells g4 47 [.slice none 0 0] :: fr) (fun y => R.length - y.2.2.1) (none, 0, 0, [], n) ⟨Nat.zero_le _, Nat.le_refl _, .inl ⟨rfl, by rw [lenN_zero]; exact (Int.sub_zero _).symm, .inl rfl⟩⟩ ⟨rfl, rfl, rfl, rfl, rfl, rfl, trivial⟩ (fun w h => by dsimp only; rw [rc_nil]; exact ((((h.sel 3 [0, 1, 2] (by decide)).mask [true, true, false])).nil 84 2).sel 3 [1, 0, 2] (by decide)) (fun y hy => ?_); obtain ⟨D, d, k, O, m⟩ := y; obtain ⟨hk, hol, hor⟩ := hy; dsimp only at hk hol hor ⊢; refine hold ?_)))
   | refine c_seq ?_
   | refine c_block ?_
   | refine c_region ?_
   | refine c_mixed mixed (by kernel_rfl) ?_
   | refine c_skip ?_
   | refine c_ret ?_
   | refine c_exit ?_
   | (refine s_iscond ?_; first
   | (refine c_true rfl (by first | with_reducible rfl | with_reducible assumption | ((with_reducible refine decide_eq_true ?_); first | with_reducible rfl | with_reducible assumption | omega)) ?_)
   | (refine c_false rfl (by first | with_reducible rfl | with_reducible assumption | ((with_reducible refine decide_eq_false ?_); first | with_reducible assumption | omega)) ?_)
   | (refine c_true rfl (by first | (simp only [Bool.not_eq_true', decide_eq_false_iff_not]; omega) | (with_reducible assumption) | (rw [decide_eq_false] <;> (first | omega | with_reducible rfl)) | (rw [decide_eq_true] <;> (first | omega | with_reducible rfl)) | (simp; done) | (simp; omega)) ?_)
   | (refine c_false rfl (by first | (simp only [Bool.not_eq_false', decide_eq_true_eq]; omega) | (with_reducible assumption) | (rw [decide_eq_false] <;> (first | omega | with_reducible rfl)) | (rw [decide_eq_true] <;> (first | omega | with_reducible rfl)) | (simp; done) | (simp; omega)) ?_)
   | refine c_cond rfl (fun hc => ?_) (fun hc => ?_)
   | refine c_condb rfl (fun hc => ?_) (fun hc => ?_)))
   | refine x_then ?_
   | refine x_then_ret ?_
   | refine x_then_exit ?_
   | refine x_block _ ?_
   | refine x_block_ret _ ?_
   | refine x_block_exit _ ?_
   | refine x_block_past (by decide) ?_
   | refine z_tailm ?_)
   | (refine z_isnil ?_; first
   | refine z_list ?_
   | refine z_mixed ?_
   | refine z_mono0 ?_
   | refine z_mono1 (by decide) fun g => ?_
   | refine z_mono2 (by decide) (by decide) fun g g' => ?_
   | refine z_mixedx ?_
   | refine z_quiet ?_)
   | (refine z_isop ?_; first
   | refine o_alloca (e := 84) (vs := rcs (0, 0)) rfl (by kernel_rfl) (by decide) fun g7 => ?_
   | refine o_boxa (vs := [.slice A R.length c]) rfl rfl (by decide) fun g => ?_
   | (refine z_isbin ?_; first
   | (refine z_isb .add ?_; first
   | refine o_add rfl rfl (by omega) (by omega) (by decide) ?_
   | refine o_addw rfl rfl (by decide) ?_)
   | (refine z_isb .sub ?_; first
   | refine o_sub rfl rfl (by omega) (by omega) (by decide) ?_
   | refine o_subw rfl rfl (by decide) ?_)
   | (refine z_isb .lss ?_; first
   | refine o_lt rfl rfl (by decide) ?_)
   | (refine z_isb .leq ?_; first
   | refine o_le rfl rfl (by decide) ?_))
   | (refine z_isload ?_; first
   | (refine z_ld1 tabOk rfl rfl ?_; first
   | refine o_loadm tabOk rfl rfl rfl (by repeat' (first | exact List.mem_cons_self | apply List.mem_cons_of_mem)) (by first | exact rcs_f _ | exact rcs_t _ | rfl | rfl) (by decide) ?_
   | refine o_loads tabOk (by first | exact own_rds 0 rfl | exact own_rds 1 rfl | exact own_rds 2 rfl | assumption) rfl rfl rfl (by first | exact rcs_f _ | exact rcs_t _ | rfl | rfl) (by decide) ?_)
   | (refine z_ldw tabOk rfl rfl ?_; first
   | (refine o_loadwm tabOk rfl rfl rfl (by repeat' (first | exact List.mem_cons_self | apply List.mem_cons_of_mem)) (by first | rfl | exact rcs_len _ | (simp only [rcs_len]; done) | rfl) (by decide) ?_)))
   | (refine z_isstore ?_; first
   | (refine z_stw rfl ?_; first
   | ((refine z_sti 0 rfl rfl ?_; refine o_storeb0 rfl tabOk rfl rfl rfl (by first | rfl | exact rcs_len _ | (simp only [rcs_len]; done) | rfl) (by first | rfl | exact rcs_one _ | rfl) (by first | rfl | exact rcs_len _ | (simp only [rcs_len]; done) | rfl) ?_))
   | ((refine z_sti 1 rfl rfl ?_; refine o_storeb1 rfl tabOk rfl rfl rfl (by first | rfl | exact rcs_len _ | (simp only [rcs_len]; done) | rfl) (by first | rfl | exact rcs_one _ | rfl) (by first | rfl | exact rcs_len _ | (simp only [rcs_len]; done) | rfl) ?_))
   | ((refine z_sti 2 rfl rfl ?_; refine o_storeb2 rfl tabOk rfl rfl rfl (by first | rfl | exact rcs_len _ | (simp only [rcs_len]; done) | rfl) (by first | rfl | exact rcs_one _ | rfl) (by first | rfl | exact rcs_len _ | (simp only [rcs_len]; done) | rfl) ?_))
   | ((refine z_sti 3 rfl rfl ?_; refine o_storeb3 rfl tabOk rfl rfl rfl (by first | rfl | exact rcs_len _ | (simp only [rcs_len]; done) | rfl) (by first | rfl | exact rcs_one _ | rfl) (by first | rfl | exact rcs_len _ | (simp only [rcs_len]; done) | rfl) ?_))
   | ((refine z_sti 4 rfl rfl ?_; refine o_storeb4 rfl tabOk rfl rfl rfl (by first | rfl | exact rcs_len _ | (simp only [rcs_len]; done) | rfl) (by first | rfl | exact rcs_one _ | rfl) (by first | rfl | exact rcs_len _ | (simp only [rcs_len]; done) | rfl) ?_))
   | ((refine z_sti 5 rfl rfl ?_; refine o_storeb5 rfl tabOk rfl rfl rfl (by first | rfl | exact rcs_len _ | (simp only [rcs_len]; done) | rfl) (by first | rfl | exact rcs_one _ | rfl) (by first | rfl | exact rcs_len _ | (simp only [rcs_len]; done) | rfl) ?_))
   | ((refine z_sti 6 rfl rfl ?_; refine o_storeb6 rfl tabOk rfl rfl rfl (by first | rfl | exact rcs_len _ | (simp only [rcs_len]; done) | rfl) (by first | rfl | exact rcs_one _ | rfl) (by first | rfl | exact rcs_len _ | (simp only [rcs_len]; done) | rfl) ?_)))
   | (refine z_st1 rfl rfl ?_; first
   | refine o_store rfl tabOk rfl rfl rfl rfl rfl (by first | exact rcs_f _ | exact rcs_t _ | rfl | rfl) (by first | rfl) ?_
   | ((refine z_sti 1 rfl rfl ?_; refine o_store1 rfl tabOk rfl rfl rfl rfl rfl (by first | exact rcs_f _ | exact rcs_t _ | rfl | rfl) (by first | rfl) ?_))
   | ((refine z_sti 2 rfl rfl ?_; refine o_store2 rfl tabOk rfl rfl rfl rfl rfl (by first | exact rcs_f _ | exact rcs_t _ | rfl | rfl) (by first | rfl) ?_))
   | ((refine z_sti 3 rfl rfl ?_; refine o_store3 rfl tabOk rfl rfl rfl rfl rfl (by first | exact rcs_f _ | exact rcs_t _ | rfl | rfl) (by first | rfl) ?_))
   | ((refine z_sti 4 rfl rfl ?_; refine o_store4 rfl tabOk rfl rfl rfl rfl rfl (by first | exact rcs_f _ | exact rcs_t _ | rfl | rfl) (by first | rfl) ?_))
   | ((refine z_sti 5 rfl rfl ?_; refine o_store5 rfl tabOk rfl rfl rfl rfl rfl (by first | exact rcs_f _ | exact rcs_t _ | rfl | rfl) (by first | rfl) ?_))
   | ((refine z_sti 6 rfl rfl ?_; refine o_store6 rfl tabOk rfl rfl rfl rfl rfl (by first | exact rcs_f _ | exact rcs_t _ | rfl | rfl) (by first | rfl) ?_))))
   | (refine z_ismakes ?_; first
   | refine o_make1 rfl tabOk zeroOk rfl rfl rfl rfl rfl (by decide) fun g => ?_)
   | (refine z_isix ?_; first
   | refine o_index0 tabOk rfl rfl rfl rfl (by omega) (by omega) (by decide) ?_
   | refine o_index1 tabOk rfl rfl rfl rfl (by omega) (by omega) (by decide) ?_
   | refine o_indexsk1 tabOk rfl rfl rfl rfl (by omega) (by omega) (by decide) ?_
   | refine o_indexsk tabOk rfl rfl rfl rfl (by omega) (by omega) (by decide) ?_
   | refine o_indexs1 tabOk (by first | exact hne (by omega) | assumption) rfl rfl rfl rfl (by omega) (by omega) (by decide) ?_)
   | (refine z_isbi ?_; first
   | refine o_len tabOk rfl rfl (by decide) ?_
   | refine o_min rfl rfl (by decide) ?_
   | refine o_max rfl rfl (by decide) ?_
   | (refine o_append0 rfl tabOk zeroOk rfl rfl rfl rfl rfl rfl (by first | exact own_rds 0 rfl | exact own_rds 1 rfl | exact own_rds 2 rfl | assumption) (by first | rfl | (simp; done)) (by first | rfl | (simp; done)) (by omega) (by omega) (by decide) fun A' c' => ?_)
   | (refine o_append rfl tabOk zeroOk rfl rfl rfl rfl rfl rfl (by first | exact own_rds 0 rfl | exact own_rds 1 rfl | exact own_rds 2 rfl | assumption) (by first | rfl | (simp; done)) (by first | rfl | (simp; done)) (by omega) (by omega) (by decide) fun A' c' => ?_)
   | (refine z_front rfl 1 rfl ?_; refine o_append rfl tabOk zeroOk rfl rfl rfl rfl rfl rfl (by first | exact own_rds 0 rfl | exact own_rds 1 rfl | exact own_rds 2 rfl | assumption) (by first | rfl | (simp; done)) (by first | rfl | (simp; done)) (by omega) (by omega) (by decide) fun A' c' => ?_)
   | (refine z_front rfl 2 rfl ?_; refine o_append rfl tabOk zeroOk rfl rfl rfl rfl rfl rfl (by first | exact own_rds 0 rfl | exact own_rds 1 rfl | exact own_rds 2 rfl | assumption) (by first | rfl | (simp; done)) (by first | rfl | (simp; done)) (by omega) (by omega) (by decide) fun A' c' => ?_)
   | (refine z_front rfl 3 rfl ?_; refine o_append rfl tabOk zeroOk rfl rfl rfl rfl rfl rfl (by first | exact own_rds 0 rfl | exact own_rds 1 rfl | exact own_rds 2 rfl | assumption) (by first | rfl | (simp; done)) (by first | rfl | (simp; done)) (by omega) (by omega) (by decide) fun A' c' => ?_)
   | (refine z_front rfl 4 rfl ?_; refine o_append rfl tabOk zeroOk rfl rfl rfl rfl rfl rfl (by first | exact own_rds 0 rfl | exact own_rds 1 rfl | exact own_rds 2 rfl | assumption) (by first | rfl | (simp; done)) (by first | rfl | (simp; done)) (by omega) (by omega) (by decide) fun A' c' => ?_)
   | (refine z_front rfl 5 rfl ?_; refine o_append rfl tabOk zeroOk rfl rfl rfl rfl rfl rfl (by first | exact own_rds 0 rfl | exact own_rds 1 rfl | exact own_rds 2 rfl | assumption) (by first | rfl | (simp; done)) (by first | rfl | (simp; done)) (by omega) (by omega) (by decide) fun A' c' => ?_))
   | refine o_move rfl (by decide) ?_
   | refine o_assign rfl (by decide) ?_
   | refine o_nil rfl (by decide) ?_
   | refine o_extract rfl rfl (by decide) ?_
   | refine o_not rfl (by decide) ?_
   | refine o_field0 tabOk rfl rfl rfl rfl rfl (by decide) ?_
   | refine o_field tabOk rfl rfl rfl rfl rfl (by decide) ?_
   | refine o_conv tabOk rfl rfl rfl (by decide) ?_))
  refine Hold.go ?_
  by_cases hl : k < R.length
  · have hrow := hR.row hl
    have hln := lenN_le hR k hk
    have hls := lenN_succ R k
    by_cases hm : m ≤ 0
    · have hF : Fst R n O := by
        rcases hor with ⟨rfl, h2, h3⟩ | h
        · refine fst_whole hR hk ?_
          rcases h3 with h3 | h3
          · exact .inr (.inr ⟨h3, by subst h3; rw [lenN_zero] at h2; omega⟩)
          · exact .inl (by omega)
        · exact h.2
      repeat' (first
       | ((refine z_isdst 14 ?_; refine o_indexsn tabOk (hne (by omega)) rfl rfl rfl rfl (by omega) (by omega) (by decide) ?_))
       | ((refine z_isdst 15 ?_; refine o_loadsw tabOk (by repeat (first | exact hrd | apply Rds.cons)) rfl rfl rfl (es := rcs (at' R k)) (rcs_len _) (by rw [rcs_len]; decide) (fun j u hu => by rw [Int.toNat_natCast]; exact rc_el R (by omega) j u hu) (by decide) ?_))
       | ((refine z_isdst 4 ?_; refine o_alloca (e := 47) (vs := [.slice none 0 0]) rfl (by kernel_rfl) (by decide) fun g4 => ?_))
       | ((refine z_isdst 5 ?_; refine o_alloca (e := 47) (vs := [.slice none 0 0]) rfl (by kernel_rfl) (by decide) fun g5 => ?_))
       | (refine s_is ?_; first
       | (refine s_isret ?_; first
       | exact f_r1 rfl (res_c tabOk rfl rfl rfl 3 rfl rfl) (D, d, O) hF rfl (fun w h => ((h.sel 4 [2, 0, 1, 3] (by decide)).mask [true, false, false, false])))
       | (refine s_isw ?_; first
       | refine c_seq ?_
       | refine c_block ?_
       | refine c_region ?_
       | refine c_mixed mixed (by kernel_rfl) ?_
       | refine c_skip ?_
       | refine c_ret ?_
       | refine c_exit ?_
       | (refine s_iscond ?_; first
       | (refine c_true rfl (by first | with_reducible rfl | with_reducible assumption | ((with_reducible refine decide_eq_true ?_); first | with_reducible rfl | with_reducible assumption | omega)) ?_)
       | (refine c_false rfl (by first | with_reducible rfl | with_reducible assumption | ((with_reducible refine decide_eq_false ?_); first | with_reducible assumption | omega)) ?_)
       | (refine c_true rfl (by first | (simp only [Bool.not_eq_true', decide_eq_false_iff_not]; omega) | (with_reducible assumption) | (rw [decide_eq_false] <;> (first | omega | with_reducible rfl)) | (rw [decide_eq_true] <;> (first | omega | with_reducible rfl)) | (simp; done) | (simp; omega)) ?_)
       | (refine c_false rfl (by first | (simp only [Bool.not_eq_false', decide_eq_true_eq]; omega) | (with_reducible assumption) | (rw [decide_eq_false] <;> (first | omega | with_reducible rfl)) | (rw [decide_eq_true] <;> (first | omega | with_reducible rfl)) | (simp; done) | (simp; omega)) ?_)
       | refine c_cond rfl (fun hc => ?_) (fun hc => ?_)
       | refine c_condb rfl (fun hc => ?_) (fun hc => ?_)))
       | refine x_then ?_
       | refine x_then_ret ?_
       | refine x_then_exit ?_
       | refine x_block _ ?_
       | refine x_block_ret _ ?_
       | refine x_block_exit _ ?_
       | refine x_block_past (by decide) ?_
       | refine z_tailm ?_)
       | (refine z_isnil ?_; first
       | refine z_list ?_
       | refine z_mixed ?_
       | refine z_mono0 ?_
       | refine z_mono1 (by decide) fun g => ?_
       | refine z_mono2 (by decide) (by decide) fun g g' => ?_
       | refine z_mixedx ?_
       | refine z_quiet ?_)
       | (refine z_isop ?_; first
       | refine o_alloca (e := 84) (vs := rcs (0, 0)) rfl (by kernel_rfl) (by decide) fun g7 => ?_
       | refine o_boxa (vs := [.slice A R.length c]) rfl rfl (by decide) fun g => ?_
       | (refine z_isbin ?_; first
       | (refine z_isb .add ?_; first
       | refine o_add rfl rfl (by omega) (by omega) (by decide) ?_
       | refine o_addw rfl rfl (by decide) ?_)
       | (refine z_isb .sub ?_; first
       | refine o_sub rfl rfl (by omega) (by omega) (by decide) ?_
       | refine o_subw rfl rfl (by decide) ?_)
       | (refine z_isb .lss ?_; first
       | refine o_lt rfl rfl (by decide) ?_)
       | (refine z_isb .leq ?_; first
       | refine o_le rfl rfl (by decide) ?_))
       | (refine z_isload ?_; first
       | (refine z_ld1 tabOk rfl rfl ?_; first
       | refine o_loadm tabOk rfl rfl rfl (by repeat' (first | exact List.mem_cons_self | apply List.mem_cons_of_mem)) (by first | exact rcs_f _ | exact rcs_t _ | rfl | rfl) (by decide) ?_
       | refine o_loads tabOk (by first | exact own_rds 0 rfl | exact own_rds 1 rfl | exact own_rds 2 rfl | assumption) rfl rfl rfl (by first | exact rcs_f _ | exact rcs_t _ | rfl | rfl) (by decide) ?_)
       | (refine z_ldw tabOk rfl rfl ?_; first
       | (refine o_loadwm tabOk rfl rfl rfl (by repeat' (first | exact List.mem_cons_self | apply List.mem_cons_of_mem)) (by first | rfl | exact rcs_len _ | (simp only [rcs_len]; done) | rfl) (by decide) ?_)))
       | (refine z_isstore ?_; first
       | (refine z_stw rfl ?_; first
       | ((refine z_sti 0 rfl rfl ?_; refine o_storeb0 rfl tabOk rfl rfl rfl (by first | rfl | exact rcs_len _ | (simp only [rcs_len]; done) | rfl) (by first | rfl | exact rcs_one _ | rfl) (by first | rfl | exact rcs_len _ | (simp only [rcs_len]; done) | rfl) ?_))
       | ((refine z_sti 1 rfl rfl ?_; refine o_storeb1 rfl tabOk rfl rfl rfl (by first | rfl | exact rcs_len _ | (simp only [rcs_len]; done) | rfl) (by first | rfl | exact rcs_one _ | rfl) (by first | rfl | exact rcs_len _ | (simp only [rcs_len]; done) | rfl) ?_))
       | ((refine z_sti 2 rfl rfl ?_; refine o_storeb2 rfl tabOk rfl rfl rfl (by first | rfl | exact rcs_len _ | (simp only [rcs_len]; done) | rfl) (by first | rfl | exact rcs_one _ | rfl) (by first | rfl | exact rcs_len _ | (simp only [rcs_len]; done) | rfl) ?_))
       | ((refine z_sti 3 rfl rfl ?_; refine o_storeb3 rfl tabOk rfl rfl rfl (by first | rfl | exact rcs_len _ | (simp only [rcs_len]; done) | rfl) (by first | rfl | exact rcs_one _ | rfl) (by first | rfl | exact rcs_len _ | (simp only [rcs_len]; done) | rfl) ?_))
       | ((refine z_sti 4 rfl rfl ?_; refine o_storeb4 rfl tabOk rfl rfl rfl (by first | rfl | exact rcs_len _ | (simp only [rcs_len]; done) | rfl) (by first | rfl | exact rcs_one _ | rfl) (by first | rfl | exact rcs_len _ | (simp only [rcs_len]; done) | rfl) ?_))
       | ((refine z_sti 5 rfl rfl ?_; refine o_storeb5 rfl tabOk rfl rfl rfl (by first | rfl | exact rcs_len _ | (simp only [rcs_len]; done) | rfl) (by first | rfl | exact rcs_one _ | rfl) (by first | rfl | exact rcs_len _ | (simp only [rcs_len]; done) | rfl) ?_))
       | ((refine z_sti 6 rfl rfl ?_; refine o_storeb6 rfl tabOk rfl rfl rfl (by first | rfl | exact rcs_len _ | (simp only [rcs_len]; done) | rfl) (by first | rfl | exact rcs_one _ | rfl) (by first | rfl | exact rcs_len _ | (simp only [rcs_len]; done) | rfl) ?_)))
       | (refine z_st1 rfl rfl ?_; first
       | refine o_store rfl tabOk rfl rfl rfl rfl rfl (by first | exact rcs_f _ | exact rcs_t _ | rfl | rfl) (by first | rfl) ?_
       | ((refine z_sti 1 rfl rfl ?_; refine o_store1 rfl tabOk rfl rfl rfl rfl rfl (by first | exact rcs_f _ | exact rcs_t _ | rfl | rfl) (by first | rfl) ?_))
       | ((refine z_sti 2 rfl rfl ?_; refine o_store2 rfl tabOk rfl rfl rfl rfl rfl (by first | exact rcs_f _ | exact rcs_t _ | rfl | rfl) (by first | rfl) ?_))
       | ((refine z_sti 3 rfl rfl ?_; refine o_store3 rfl tabOk rfl rfl rfl rfl rfl (by first | exact rcs_f _ | exact rcs_t _ | rfl | rfl) (by first | rfl) ?_))
       | ((refine z_sti 4 rfl rfl ?_; refine o_store4 rfl tabOk rfl rfl rfl rfl rfl (by first | exact rcs_f _ | exact rcs_t _ | rfl | rfl) (by first | rfl) ?_))
       | ((refine z_sti 5 rfl rfl ?_; refine o_store5 rfl tabOk rfl rfl rfl rfl rfl (by first | exact rcs_f _ | exact rcs_t _ | rfl | rfl) (by first | rfl) ?_))
       | ((refine z_sti 6 rfl rfl ?_; refine o_store6 rfl tabOk rfl rfl rfl rfl rfl (by first | exact rcs_f _ | exact rcs_t _ | rfl | rfl) (by first | rfl) ?_))))
       | (refine z_ismakes ?_; first
       | refine o_make1 rfl tabOk zeroOk rfl rfl rfl rfl rfl (by decide) fun g => ?_)
       | (refine z_isix ?_; first
       | refine o_index0 tabOk rfl rfl rfl rfl (by omega) (by omega) (by decide) ?_
       | refine o_index1 tabOk rfl rfl rfl rfl (by omega) (by omega) (by decide) ?_
       | refine o_indexsk1 tabOk rfl rfl rfl rfl (by omega) (by omega) (by decide) ?_
       | refine o_indexsk tabOk rfl rfl rfl rfl (by omega) (by omega) (by decide) ?_
       | refine o_indexs1 tabOk (by first | exact hne (by omega) | assumption) rfl rfl rfl rfl (by omega) (by omega) (by decide) ?_)
       | (refine z_isbi ?_; first
       | refine o_len tabOk rfl rfl (by decide) ?_
       | refine o_min rfl rfl (by decide) ?_
       | refine o_max rfl rfl (by decide) ?_
       | (refine o_append0 rfl tabOk zeroOk rfl rfl rfl rfl rfl rfl (by first | exact own_rds 0 rfl | exact own_rds 1 rfl | exact own_rds 2 rfl | assumption) (by first | rfl | (simp; done)) (by first | rfl | (simp; done)) (by omega) (by omega) (by decide) fun A' c' => ?_)
       | (refine o_append rfl tabOk zeroOk rfl rfl rfl rfl rfl rfl (by first | exact own_rds 0 rfl | exact own_rds 1 rfl | exact own_rds 2 rfl | assumption) (by first | rfl | (simp; done)) (by first | rfl | (simp; done)) (by omega) (by omega) (by decide) fun A' c' => ?_)
       | (refine z_front rfl 1 rfl ?_; refine o_append rfl tabOk zeroOk rfl rfl rfl rfl rfl rfl (by first | exact own_rds 0 rfl | exact own_rds 1 rfl | exact own_rds 2 rfl | assumption) (by first | rfl | (simp; done)) (by first | rfl | (simp; done)) (by omega) (by omega) (by decide) fun A' c' => ?_)
       | (refine z_front rfl 2 rfl ?_; refine o_append rfl tabOk zeroOk rfl rfl rfl rfl rfl rfl (by first | exact own_rds 0 rfl | exact own_rds 1 rfl | exact own_rds 2 rfl | assumption) (by first | rfl | (simp; done)) (by first | rfl | (simp; done)) (by omega) (by omega) (by decide) fun A' c' => ?_)
       | (refine z_front rfl 3 rfl ?_; refine o_append rfl tabOk zeroOk rfl rfl rfl rfl rfl rfl (by first | exact own_rds 0 rfl | exact own_rds 1 rfl | exact own_rds 2 rfl | assumption) (by first | rfl | (simp; done)) (by first | rfl | (simp; done)) (by omega) (by omega) (by decide) fun A' c' => ?_)
       | (refine z_front rfl 4 rfl ?_; refine o_append rfl tabOk zeroOk rfl rfl rfl rfl rfl rfl (by first | exact own_rds 0 rfl | exact own_rds 1 rfl | exact own_rds 2 rfl | assumption) (by first | rfl | (simp; done)) (by first | rfl | (simp; done)) (by omega) (by omega) (by decide) fun A' c' => ?_)
       | (refine z_front rfl 5 rfl ?_; refine o_append rfl tabOk zeroOk rfl rfl rfl rfl rfl rfl (by first | exact own_rds 0 rfl | exact own_rds 1 rfl | exact own_rds 2 rfl | assumption) (by first | rfl | (simp; done)) (by first | rfl | (simp; done)) (by omega) (by omega) (by decide) fun A' c' => ?_))
       | refine o_move rfl (by decide) ?_
       | refine o_assign rfl (by decide) ?_
       | refine o_nil rfl (by decide) ?_
       | refine o_extract rfl rfl (by decide) ?_
       | refine o_not rfl (by decide) ?_
       | refine o_field0 tabOk rfl rfl rfl rfl rfl (by decide) ?_
       | refine o_field tabOk rfl rfl rfl rfl rfl (by decide) ?_
       | refine o_conv tabOk rfl rfl rfl (by decide) ?_))
    · have hO : O = R.take k ∧ m = n - lenN R k := by
        rcases hor with ⟨h1, h2, _⟩ | ⟨h1, _⟩
        · exact ⟨h1, h2⟩
        · omega
      obtain ⟨hO1, hO2⟩ := hO
      by_cases hw2 : (at' R k).2 - (at' R k).1 ≤ m
      · have hto : min (at' R k).2 ((at' R k).1 + min m 1024) = (at' R k).2 := by omega
        have hsn : R.take (k + 1) = O ++ [((at' R k).1, (at' R k).2)] := by rw [List.take_add_one, at_get hl, hO1]; rfl
        repeat' (first
         | ((refine z_isdst 25 ?_; refine o_min rfl rfl (by decide) ?_; rw [hto]))
         | ((refine z_isdst 14 ?_; refine o_indexsn tabOk (hne (by omega)) rfl rfl rfl rfl (by omega) (by omega) (by decide) ?_))
         | ((refine z_isdst 15 ?_; refine o_loadsw tabOk (by repeat (first | exact hrd | apply Rds.cons)) rfl rfl rfl (es := rcs (at' R k)) (rcs_len _) (by rw [rcs_len]; decide) (fun j u hu => by rw [Int.toNat_natCast]; exact rc_el R (by omega) j u hu) (by decide) ?_))
         | ((refine z_isdst 4 ?_; refine o_alloca (e := 47) (vs := [.slice none 0 0]) rfl (by kernel_rfl) (by decide) fun g4 => ?_))
         | ((refine z_isdst 5 ?_; refine o_alloca (e := 47) (vs := [.slice none 0 0]) rfl (by kernel_rfl) (by decide) fun g5 => ?_))
         | (refine s_is ?_; first
         | (refine s_isagain ?_; first
         | (exact c_again (A', c', k + 1, O ++ [((at' R k).1, (at' R k).2)], m - ((at' R k).2 - (at' R k).1)) ⟨by dsimp only; omega, by dsimp only; rw [List.length_append]; exact Nat.add_le_add_right hol 1, .inl ⟨hsn.symm, by dsimp only; omega, .inr (by dsimp only; omega)⟩⟩ (by dsimp only; omega) ⟨rfl, rfl, rfl, rfl, rfl, rfl, trivial⟩ (fun w h => by dsimp only; rw [rc_add, rcs_mk, List.length_append]; exact ((h.sel 5 [3, 0, 4, 1, 2] (by decide)).mask [true, true, true, false, false]))))
         | (refine s_isw ?_; first
         | refine c_seq ?_
         | refine c_block ?_
         | refine c_region ?_
         | refine c_mixed mixed (by kernel_rfl) ?_
         | refine c_skip ?_
         | refine c_ret ?_
         | refine c_exit ?_
         | (refine s_iscond ?_; first
         | (refine c_true rfl (by first | with_reducible rfl | with_reducible assumption | ((with_reducible refine decide_eq_true ?_); first | with_reducible rfl | with_reducible assumption | omega)) ?_)
         | (refine c_false rfl (by first | with_reducible rfl | with_reducible assumption | ((with_reducible refine decide_eq_false ?_); first | with_reducible assumption | omega)) ?_)
         | (refine c_true rfl (by first | (simp only [Bool.not_eq_true', decide_eq_false_iff_not]; omega) | (with_reducible assumption) | (rw [decide_eq_false] <;> (first | omega | with_reducible rfl)) | (rw [decide_eq_true] <;> (first | omega | with_reducible rfl)) | (simp; done) | (simp; omega)) ?_)
         | (refine c_false rfl (by first | (simp only [Bool.not_eq_false', decide_eq_true_eq]; omega) | (with_reducible assumption) | (rw [decide_eq_false] <;> (first | omega | with_reducible rfl)) | (rw [decide_eq_true] <;> (first | omega | with_reducible rfl)) | (simp; done) | (simp; omega)) ?_)
         | refine c_cond rfl (fun hc => ?_) (fun hc => ?_)
         | refine c_condb rfl (fun hc => ?_) (fun hc => ?_)))
         | refine x_then ?_
         | refine x_then_ret ?_
         | refine x_then_exit ?_
         | refine x_block _ ?_
         | refine x_block_ret _ ?_
         | refine x_block_exit _ ?_
         | refine x_block_past (by decide) ?_
         | refine z_tailm ?_)
         | (refine z_isnil ?_; first
         | refine z_list ?_
         | refine z_mixed ?_
         | refine z_mono0 ?_
         | refine z_mono1 (by decide) fun g => ?_
         | refine z_mono2 (by decide) (by decide) fun g g' => ?_
         | refine z_mixedx ?_
         | refine z_quiet ?_)
         | (refine z_isop ?_; first
         | (refine o_buildf (t := 84) (zs := [.int .i64 0, .int .i64 0]) (vs := [.int .i64 (at' R k).1, .int .i64 (at' R k).2]) tabOk rfl rfl (by kernel_rfl) rfl ⟨_, _, rfl, rfl, Nat.le_of_ble_eq_true rfl, _, _, rfl, rfl, Nat.le_of_ble_eq_true rfl, rfl⟩ (by decide) ?_)
         | refine o_makew (vs := [.int .i64 (at' R k).1, .int .i64 (at' R k).2]) rfl tabOk zeroOk rfl rfl rfl rfl rfl rfl rfl (by decide) fun gn => ?_
         | refine o_alloca (e := 84) (vs := rcs (0, 0)) rfl (by kernel_rfl) (by decide) fun g7 => ?_
         | refine o_boxa (vs := [.slice A R.length c]) rfl rfl (by decide) fun g => ?_
         | (refine z_isbin ?_; first
         | (refine z_isb .add ?_; first
         | refine o_add rfl rfl (by omega) (by omega) (by decide) ?_
         | refine o_addw rfl rfl (by decide) ?_)
         | (refine z_isb .sub ?_; first
         | refine o_sub rfl rfl (by omega) (by omega) (by decide) ?_
         | refine o_subw rfl rfl (by decide) ?_)
         | (refine z_isb .lss ?_; first
         | refine o_lt rfl rfl (by decide) ?_)
         | (refine z_isb .leq ?_; first
         | refine o_le rfl rfl (by decide) ?_))
         | (refine z_isload ?_; first
         | (refine z_ld1 tabOk rfl rfl ?_; first
         | refine o_loadm tabOk rfl rfl rfl (by repeat' (first | exact List.mem_cons_self | apply List.mem_cons_of_mem)) (by first | exact rcs_f _ | exact rcs_t _ | rfl | rfl) (by decide) ?_
         | refine o_loads tabOk (by first | exact own_rds 0 rfl | exact own_rds 1 rfl | exact own_rds 2 rfl | assumption) rfl rfl rfl (by first | exact rcs_f _ | exact rcs_t _ | rfl | rfl) (by decide) ?_)
         | (refine z_ldw tabOk rfl rfl ?_; first
         | (refine o_loadwm tabOk rfl rfl rfl (by repeat' (first | exact List.mem_cons_self | apply List.mem_cons_of_mem)) (by first | rfl | exact rcs_len _ | (simp only [rcs_len]; done) | rfl) (by decide) ?_)))
         | (refine z_isstore ?_; first
         | (refine z_stw rfl ?_; first
         | ((refine z_sti 0 rfl rfl ?_; refine o_storeb0 rfl tabOk rfl rfl rfl (by first | rfl | exact rcs_len _ | (simp only [rcs_len]; done) | rfl) (by first | rfl | exact rcs_one _ | rfl) (by first | rfl | exact rcs_len _ | (simp only [rcs_len]; done) | rfl) ?_))
         | ((refine z_sti 1 rfl rfl ?_; refine o_storeb1 rfl tabOk rfl rfl rfl (by first | rfl | exact rcs_len _ | (simp only [rcs_len]; done) | rfl) (by first | rfl | exact rcs_one _ | rfl) (by first | rfl | exact rcs_len _ | (simp only [rcs_len]; done) | rfl) ?_))
         | ((refine z_sti 2 rfl rfl ?_; refine o_storeb2 rfl tabOk rfl rfl rfl (by first | rfl | exact rcs_len _ | (simp only [rcs_len]; done) | rfl) (by first | rfl | exact rcs_one _ | rfl) (by first | rfl | exact rcs_len _ | (simp only [rcs_len]; done) | rfl) ?_))
         | ((refine z_sti 3 rfl rfl ?_; refine o_storeb3 rfl tabOk rfl rfl rfl (by first | rfl | exact rcs_len _ | (simp only [rcs_len]; done) | rfl) (by first | rfl | exact rcs_one _ | rfl) (by first | rfl | exact rcs_len _ | (simp only [rcs_len]; done) | rfl) ?_))
         | ((refine z_sti 4 rfl rfl ?_; refine o_storeb4 rfl tabOk rfl rfl rfl (by first | rfl | exact rcs_len _ | (simp only [rcs_len]; done) | rfl) (by first | rfl | exact rcs_one _ | rfl) (by first | rfl | exact rcs_len _ | (simp only [rcs_len]; done) | rfl) ?_))
         | ((refine z_sti 5 rfl rfl ?_; refine o_storeb5 rfl tabOk rfl rfl rfl (by first | rfl | exact rcs_len _ | (simp only [rcs_len]; done) | rfl) (by first | rfl | exact rcs_one _ | rfl) (by first | rfl | exact rcs_len _ | (simp only [rcs_len]; done) | rfl) ?_))
         | ((refine z_sti 6 rfl rfl ?_; refine o_storeb6 rfl tabOk rfl rfl rfl (by first | rfl | exact rcs_len _ | (simp only [rcs_len]; done) | rfl) (by first | rfl | exact rcs_one _ | rfl) (by first | rfl | exact rcs_len _ | (simp only [rcs_len]; done) | rfl) ?_)))
         | (refine z_st1 rfl rfl ?_; first
         | refine o_store rfl tabOk rfl rfl rfl rfl rfl (by first | exact rcs_f _ | exact rcs_t _ | rfl | rfl) (by first | rfl) ?_
         | ((refine z_sti 1 rfl rfl ?_; refine o_store1 rfl tabOk rfl rfl rfl rfl rfl (by first | exact rcs_f _ | exact rcs_t _ | rfl | rfl) (by first | rfl) ?_))
         | ((refine z_sti 2 rfl rfl ?_; refine o_store2 rfl tabOk rfl rfl rfl rfl rfl (by first | exact rcs_f _ | exact rcs_t _ | rfl | rfl) (by first | rfl) ?_))
         | ((refine z_sti 3 rfl rfl ?_; refine o_store3 rfl tabOk rfl rfl rfl rfl rfl (by first | exact rcs_f _ | exact rcs_t _ | rfl | rfl) (by first | rfl) ?_))
         | ((refine z_sti 4 rfl rfl ?_; refine o_store4 rfl tabOk rfl rfl rfl rfl rfl (by first | exact rcs_f _ | exact rcs_t _ | rfl | rfl) (by first | rfl) ?_))
         | ((refine z_sti 5 rfl rfl ?_; refine o_store5 rfl tabOk rfl rfl rfl rfl rfl (by first | exact rcs_f _ | exact rcs_t _ | rfl | rfl) (by first | rfl) ?_))
         | ((refine z_sti 6 rfl rfl ?_; refine o_store6 rfl tabOk rfl rfl rfl rfl rfl (by first | exact rcs_f _ | exact rcs_t _ | rfl | rfl) (by first | rfl) ?_))))
         | (refine z_ismakes ?_; first
         | refine o_make1 rfl tabOk zeroOk rfl rfl rfl rfl rfl (by decide) fun g => ?_)
         | (refine z_isix ?_; first
         | refine o_index0 tabOk rfl rfl rfl rfl (by omega) (by omega) (by decide) ?_
         | refine o_index1 tabOk rfl rfl rfl rfl (by omega) (by omega) (by decide) ?_
         | refine o_indexsk1 tabOk rfl rfl rfl rfl (by omega) (by omega) (by decide) ?_
         | refine o_indexsk tabOk rfl rfl rfl rfl (by omega) (by omega) (by decide) ?_
         | refine o_indexs1 tabOk (by first | exact hne (by omega) | assumption) rfl rfl rfl rfl (by omega) (by omega) (by decide) ?_)
         | (refine z_isbi ?_; first
         | refine o_len tabOk rfl rfl (by decide) ?_
         | refine o_min rfl rfl (by decide) ?_
         | refine o_max rfl rfl (by decide) ?_
         | (refine o_append0 rfl tabOk zeroOk rfl rfl rfl rfl rfl rfl (by first | exact own_rds 0 rfl | exact own_rds 1 rfl | exact own_rds 2 rfl | assumption) (by first | rfl | (simp; done)) (by first | rfl | (simp; done)) (by omega) (by omega) (by decide) fun A' c' => ?_)
         | (refine o_append rfl tabOk zeroOk rfl rfl rfl rfl rfl rfl (by first | exact own_rds 0 rfl | exact own_rds 1 rfl | exact own_rds 2 rfl | assumption) (by first | rfl | (simp; done)) (by first | rfl | (simp; done)) (by omega) (by omega) (by decide) fun A' c' => ?_)
         | (refine z_front rfl 1 rfl ?_; refine o_append rfl tabOk zeroOk rfl rfl rfl rfl rfl rfl (by first | exact own_rds 0 rfl | exact own_rds 1 rfl | exact own_rds 2 rfl | assumption) (by first | rfl | (simp; done)) (by first | rfl | (simp; done)) (by omega) (by omega) (by decide) fun A' c' => ?_)
         | (refine z_front rfl 2 rfl ?_; refine o_append rfl tabOk zeroOk rfl rfl rfl rfl rfl rfl (by first | exact own_rds 0 rfl | exact own_rds 1 rfl | exact own_rds 2 rfl | assumption) (by first | rfl | (simp; done)) (by first | rfl | (simp; done)) (by omega) (by omega) (by decide) fun A' c' => ?_)
         | (refine z_front rfl 3 rfl ?_; refine o_append rfl tabOk zeroOk rfl rfl rfl rfl rfl rfl (by first | exact own_rds 0 rfl | exact own_rds 1 rfl | exact own_rds 2 rfl | assumption) (by first | rfl | (simp; done)) (by first | rfl | (simp; done)) (by omega) (by omega) (by decide) fun A' c' => ?_)
         | (refine z_front rfl 4 rfl ?_; refine o_append rfl tabOk zeroOk rfl rfl rfl rfl rfl rfl (by first | exact own_rds 0 rfl | exact own_rds 1 rfl | exact own_rds 2 rfl | assumption) (by first | rfl | (simp; done)) (by first | rfl | (simp; done)) (by omega) (by omega) (by decide) fun A' c' => ?_)
         | (refine z_front rfl 5 rfl ?_; refine o_append rfl tabOk zeroOk rfl rfl rfl rfl rfl rfl (by first | exact own_rds 0 rfl | exact own_rds 1 rfl | exact own_rds 2 rfl | assumption) (by first | rfl | (simp; done)) (by first | rfl | (simp; done)) (by omega) (by omega) (by decide) fun A' c' => ?_))
         | refine o_move rfl (by decide) ?_
         | refine o_assign rfl (by decide) ?_
         | refine o_nil rfl (by decide) ?_
         | refine o_extract rfl rfl (by decide) ?_
         | refine o_not rfl (by decide) ?_
         | refine o_field0 tabOk rfl rfl rfl rfl rfl (by decide) ?_
         | refine o_field tabOk rfl rfl rfl rfl rfl (by decide) ?_
         | refine o_conv tabOk rfl rfl rfl (by decide) ?_))
      · have hto : min (at' R k).2 ((at' R k).1 + min m 1024) = (at' R k).1 + m := by omega
        have hF := fst_part hR hl hO2 (by omega) (by omega)
        rw [← hO1] at hF
        repeat' (first
         | ((refine z_isdst 25 ?_; refine o_min rfl rfl (by decide) ?_; rw [hto]))
         | ((refine z_isdst 14 ?_; refine o_indexsn tabOk (hne (by omega)) rfl rfl rfl rfl (by omega) (by omega) (by decide) ?_))
         | ((refine z_isdst 15 ?_; refine o_loadsw tabOk (by repeat (first | exact hrd | apply Rds.cons)) rfl rfl rfl (es := rcs (at' R k)) (rcs_len _) (by rw [rcs_len]; decide) (fun j u hu => by rw [Int.toNat_natCast]; exact rc_el R (by omega) j u hu) (by decide) ?_))
         | ((refine z_isdst 4 ?_; refine o_alloca (e := 47) (vs := [.slice none 0 0]) rfl (by kernel_rfl) (by decide) fun g4 => ?_))
         | ((refine z_isdst 5 ?_; refine o_alloca (e := 47) (vs := [.slice none 0 0]) rfl (by kernel_rfl) (by decide) fun g5 => ?_))
         | (refine s_is ?_; first
         | (refine s_isagain ?_; first
         | (exact c_again (A', c', k + 1, O ++ [((at' R k).1, (at' R k).1 + m)], m - ((at' R k).1 + m - (at' R k).1)) ⟨by dsimp only; omega, by dsimp only; rw [List.length_append]; exact Nat.add_le_add_right hol 1, .inr ⟨by dsimp only; omega, hF⟩⟩ (by dsimp only; omega) ⟨rfl, rfl, rfl, rfl, rfl, rfl, trivial⟩ (fun w h => by dsimp only; rw [rc_add, rcs_mk, List.length_append]; exact ((h.sel 5 [3, 0, 4, 1, 2] (by decide)).mask [true, true, true, false, false]))))
         | (refine s_isw ?_; first
         | refine c_seq ?_
         | refine c_block ?_
         | refine c_region ?_
         | refine c_mixed mixed (by kernel_rfl) ?_
         | refine c_skip ?_
         | refine c_ret ?_
         | refine c_exit ?_
         | (refine s_iscond ?_; first
         | (refine c_true rfl (by first | with_reducible rfl | with_reducible assumption | ((with_reducible refine decide_eq_true ?_); first | with_reducible rfl | with_reducible assumption | omega)) ?_)
         | (refine c_false rfl (by first | with_reducible rfl | with_reducible assumption | ((with_reducible refine decide_eq_false ?_); first | with_reducible assumption | omega)) ?_)
         | (refine c_true rfl (by first | (simp only [Bool.not_eq_true', decide_eq_false_iff_not]; omega) | (with_reducible assumption) | (rw [decide_eq_false] <;> (first | omega | with_reducible rfl)) | (rw [decide_eq_true] <;> (first | omega | with_reducible rfl)) | (simp; done) | (simp; omega)) ?_)
         | (refine c_false rfl (by first | (simp only [Bool.not_eq_false', decide_eq_true_eq]; omega) | (with_reducible assumption) | (rw [decide_eq_false] <;> (first | omega | with_reducible rfl)) | (rw [decide_eq_true] <;> (first | omega | with_reducible rfl)) | (simp; done) | (simp; omega)) ?_)
         | refine c_cond rfl (fun hc => ?_) (fun hc => ?_)
         | refine c_condb rfl (fun hc => ?_) (fun hc => ?_)))
         | refine x_then ?_
         | refine x_then_ret ?_
         | refine x_then_exit ?_
         | refine x_block _ ?_
         | refine x_block_ret _ ?_
         | refine x_block_exit _ ?_
         | refine x_block_past (by decide) ?_
         | refine z_tailm ?_)
         | (refine z_isnil ?_; first
         | refine z_list ?_
         | refine z_mixed ?_
         | refine z_mono0 ?_
         | refine z_mono1 (by decide) fun g => ?_
         | refine z_mono2 (by decide) (by decide) fun g g' => ?_
         | refine z_mixedx ?_
         | refine z_quiet ?_)
         | (refine z_isop ?_; first
         | (refine o_buildf (t := 84) (zs := [.int .i64 0, .int .i64 0]) (vs := [.int .i64 (at' R k).1, .int .i64 ((at' R k).1 + m)]) tabOk rfl rfl (by kernel_rfl) rfl ⟨_, _, rfl, rfl, Nat.le_of_ble_eq_true rfl, _, _, rfl, rfl, Nat.le_of_ble_eq_true rfl, rfl⟩ (by decide) ?_)
         | refine o_makew (vs := [.int .i64 (at' R k).1, .int .i64 ((at' R k).1 + m)]) rfl tabOk zeroOk rfl rfl rfl rfl rfl rfl rfl (by decide) fun gn => ?_
         | refine o_alloca (e := 84) (vs := rcs (0, 0)) rfl (by kernel_rfl) (by decide) fun g7 => ?_
         | refine o_boxa (vs := [.slice A R.length c]) rfl rfl (by decide) fun g => ?_
         | (refine z_isbin ?_; first
         | (refine z_isb .add ?_; first
         | refine o_add rfl rfl (by omega) (by omega) (by decide) ?_
         | refine o_addw rfl rfl (by decide) ?_)
         | (refine z_isb .sub ?_; first
         | refine o_sub rfl rfl (by omega) (by omega) (by decide) ?_
         | refine o_subw rfl rfl (by decide) ?_)
         | (refine z_isb .lss ?_; first
         | refine o_lt rfl rfl (by decide) ?_)
         | (refine z_isb .leq ?_; first
         | refine o_le rfl rfl (by decide) ?_))
         | (refine z_isload ?_; first
         | (refine z_ld1 tabOk rfl rfl ?_; first
         | refine o_loadm tabOk rfl rfl rfl (by repeat' (first | exact List.mem_cons_self | apply List.mem_cons_of_mem)) (by first | exact rcs_f _ | exact rcs_t _ | rfl | rfl) (by decide) ?_
         | refine o_loads tabOk (by first | exact own_rds 0 rfl | exact own_rds 1 rfl | exact own_rds 2 rfl | assumption) rfl rfl rfl (by first | exact rcs_f _ | exact rcs_t _ | rfl | rfl) (by decide) ?_)
         | (refine z_ldw tabOk rfl rfl ?_; first
         | (refine o_loadwm tabOk rfl rfl rfl (by repeat' (first | exact List.mem_cons_self | apply List.mem_cons_of_mem)) (by first | rfl | exact rcs_len _ | (simp only [rcs_len]; done) | rfl) (by decide) ?_)))
         | (refine z_isstore ?_; first
         | (refine z_stw rfl ?_; first
         | ((refine z_sti 0 rfl rfl ?_; refine o_storeb0 rfl tabOk rfl rfl rfl (by first | rfl | exact rcs_len _ | (simp only [rcs_len]; done) | rfl) (by first | rfl | exact rcs_one _ | rfl) (by first | rfl | exact rcs_len _ | (simp only [rcs_len]; done) | rfl) ?_))
         | ((refine z_sti 1 rfl rfl ?_; refine o_storeb1 rfl tabOk rfl rfl rfl (by first | rfl | exact rcs_len _ | (simp only [rcs_len]; done) | rfl) (by first | rfl | exact rcs_one _ | rfl) (by first | rfl | exact rcs_len _ | (simp only [rcs_len]; done) | rfl) ?_))
         | ((refine z_sti 2 rfl rfl ?_; refine o_storeb2 rfl tabOk rfl rfl rfl (by first | rfl | exact rcs_len _ | (simp only [rcs_len]; done) | rfl) (by first | rfl | exact rcs_one _ | rfl) (by first | rfl | exact rcs_len _ | (simp only [rcs_len]; done) | rfl) ?_))
         | ((refine z_sti 3 rfl rfl ?_; refine o_storeb3 rfl tabOk rfl rfl rfl (by first | rfl | exact rcs_len _ | (simp only [rcs_len]; done) | rfl) (by first | rfl | exact rcs_one _ | rfl) (by first | rfl | exact rcs_len _ | (simp only [rcs_len]; done) | rfl) ?_))
         | ((refine z_sti 4 rfl rfl ?_; refine o_storeb4 rfl tabOk rfl rfl rfl (by first | rfl | exact rcs_len _ | (simp only [rcs_len]; done) | rfl) (by first | rfl | exact rcs_one _ | rfl) (by first | rfl | exact rcs_len _ | (simp only [rcs_len]; done) | rfl) ?_))
         | ((refine z_sti 5 rfl rfl ?_; refine o_storeb5 rfl tabOk rfl rfl rfl (by first | rfl | exact rcs_len _ | (simp only [rcs_len]; done) | rfl) (by first | rfl | exact rcs_one _ | rfl) (by first | rfl | exact rcs_len _ | (simp only [rcs_len]; done) | rfl) ?_))
         | ((refine z_sti 6 rfl rfl ?_; refine o_storeb6 rfl tabOk rfl rfl rfl (by first | rfl | exact rcs_len _ | (simp only [rcs_len]; done) | rfl) (by first | rfl | exact rcs_one _ | rfl) (by first | rfl | exact rcs_len _ | (simp only [rcs_len]; done) | rfl) ?_)))
         | (refine z_st1 rfl rfl ?_; first
         | refine o_store rfl tabOk rfl rfl rfl rfl rfl (by first | exact rcs_f _ | exact rcs_t _ | rfl | rfl) (by first | rfl) ?_
         | ((refine z_sti 1 rfl rfl ?_; refine o_store1 rfl tabOk rfl rfl rfl rfl rfl (by first | exact rcs_f _ | exact rcs_t _ | rfl | rfl) (by first | rfl) ?_))
         | ((refine z_sti 2 rfl rfl ?_; refine o_store2 rfl tabOk rfl rfl rfl rfl rfl (by first | exact rcs_f _ | exact rcs_t _ | rfl | rfl) (by first | rfl) ?_))
         | ((refine z_sti 3 rfl rfl ?_; refine o_store3 rfl tabOk rfl rfl rfl rfl rfl (by first | exact rcs_f _ | exact rcs_t _ | rfl | rfl) (by first | rfl) ?_))
         | ((refine z_sti 4 rfl rfl ?_; refine o_store4 rfl tabOk rfl rfl rfl rfl rfl (by first | exact rcs_f _ | exact rcs_t _ | rfl | rfl) (by first | rfl) ?_))
         | ((refine z_sti 5 rfl rfl ?_; refine o_store5 rfl tabOk rfl rfl rfl rfl rfl (by first | exact rcs_f _ | exact rcs_t _ | rfl | rfl) (by first | rfl) ?_))
         | ((refine z_sti 6 rfl rfl ?_; refine o_store6 rfl tabOk rfl rfl rfl rfl rfl (by first | exact rcs_f _ | exact rcs_t _ | rfl | rfl) (by first | rfl) ?_))))
         | (refine z_ismakes ?_; first
         | refine o_make1 rfl tabOk zeroOk rfl rfl rfl rfl rfl (by decide) fun g => ?_)
         | (refine z_isix ?_; first
         | refine o_index0 tabOk rfl rfl rfl rfl (by omega) (by omega) (by decide) ?_
         | refine o_index1 tabOk rfl rfl rfl rfl (by omega) (by omega) (by decide) ?_
         | refine o_indexsk1 tabOk rfl rfl rfl rfl (by omega) (by omega) (by decide) ?_
         | refine o_indexsk tabOk rfl rfl rfl rfl (by omega) (by omega) (by decide) ?_
         | refine o_indexs1 tabOk (by first | exact hne (by omega) | assumption) rfl rfl rfl rfl (by omega) (by omega) (by decide) ?_)
         | (refine z_isbi ?_; first
         | refine o_len tabOk rfl rfl (by decide) ?_
         | refine o_min rfl rfl (by decide) ?_
         | refine o_max rfl rfl (by decide) ?_
         | (refine o_append0 rfl tabOk zeroOk rfl rfl rfl rfl rfl rfl (by first | exact own_rds 0 rfl | exact own_rds 1 rfl | exact own_rds 2 rfl | assumption) (by first | rfl | (simp; done)) (by first | rfl | (simp; done)) (by omega) (by omega) (by decide) fun A' c' => ?_)
         | (refine o_append rfl tabOk zeroOk rfl rfl rfl rfl rfl rfl (by first | exact own_rds 0 rfl | exact own_rds 1 rfl | exact own_rds 2 rfl | assumption) (by first | rfl | (simp; done)) (by first | rfl | (simp; done)) (by omega) (by omega) (by decide) fun A' c' => ?_)
         | (refine z_front rfl 1 rfl ?_; refine o_append rfl tabOk zeroOk rfl rfl rfl rfl rfl rfl (by first | exact own_rds 0 rfl | exact own_rds 1 rfl | exact own_rds 2 rfl | assumption) (by first | rfl | (simp; done)) (by first | rfl | (simp; done)) (by omega) (by omega) (by decide) fun A' c' => ?_)
         | (refine z_front rfl 2 rfl ?_; refine o_append rfl tabOk zeroOk rfl rfl rfl rfl rfl rfl (by first | exact own_rds 0 rfl | exact own_rds 1 rfl | exact own_rds 2 rfl | assumption) (by first | rfl | (simp; done)) (by first | rfl | (simp; done)) (by omega) (by omega) (by decide) fun A' c' => ?_)
         | (refine z_front rfl 3 rfl ?_; refine o_append rfl tabOk zeroOk rfl rfl rfl rfl rfl rfl (by first | exact own_rds 0 rfl | exact own_rds 1 rfl | exact own_rds 2 rfl | assumption) (by first | rfl | (simp; done)) (by first | rfl | (simp; done)) (by omega) (by omega) (by decide) fun A' c' => ?_)
         | (refine z_front rfl 4 rfl ?_; refine o_append rfl tabOk zeroOk rfl rfl rfl rfl rfl rfl (by first | exact own_rds 0 rfl | exact own_rds 1 rfl | exact own_rds 2 rfl | assumption) (by first | rfl | (simp; done)) (by first | rfl | (simp; done)) (by omega) (by omega) (by decide) fun A' c' => ?_)
         | (refine z_front rfl 5 rfl ?_; refine o_append rfl tabOk zeroOk rfl rfl rfl rfl rfl rfl (by first | exact own_rds 0 rfl | exact own_rds 1 rfl | exact own_rds 2 rfl | assumption) (by first | rfl | (simp; done)) (by first | rfl | (simp; done)) (by omega) (by omega) (by decide) fun A' c' => ?_))
         | refine o_move rfl (by decide) ?_
         | refine o_assign rfl (by decide) ?_
         | refine o_nil rfl (by decide) ?_
         | refine o_extract rfl rfl (by decide) ?_
         | refine o_not rfl (by decide) ?_
         | refine o_field0 tabOk rfl rfl rfl rfl rfl (by decide) ?_
         | refine o_field tabOk rfl rfl rfl rfl rfl (by decide) ?_
         | refine o_conv tabOk rfl rfl rfl (by decide) ?_))
  · obtain rfl : k = R.length := by omega
    have hF : Fst R n O := by
      rcases hor with ⟨rfl, h2, h3⟩ | h
      · refine fst_whole hR hk ?_
        rcases h3 with h3 | h3
        · by_cases hn : n ≤ 0
          · exact .inr (.inr ⟨h3, hn⟩)
          · exact .inr (.inl ⟨rfl, by rw [h3, lenN_zero]; omega⟩)
        · exact .inr (.inl ⟨rfl, by omega⟩)
      · exact h.2
    repeat' (first
     | ((refine z_isdst 14 ?_; refine o_indexsn tabOk (hne (by omega)) rfl rfl rfl rfl (by omega) (by omega) (by decide) ?_))
     | ((refine z_isdst 15 ?_; refine o_loadsw tabOk (by repeat (first | exact hrd | apply Rds.cons)) rfl rfl rfl (es := rcs (at' R k)) (rcs_len _) (by rw [rcs_len]; decide) (fun j u hu => by rw [Int.toNat_natCast]; exact rc_el R (by omega) j u hu) (by decide) ?_))
     | ((refine z_isdst 4 ?_; refine o_alloca (e := 47) (vs := [.slice none 0 0]) rfl (by kernel_rfl) (by decide) fun g4 => ?_))
     | ((refine z_isdst 5 ?_; refine o_alloca (e := 47) (vs := [.slice none 0 0]) rfl (by kernel_rfl) (by decide) fun g5 => ?_))
     | (refine s_is ?_; first
     | (refine s_isret ?_; first
     | exact f_r1 rfl (res_c tabOk rfl rfl rfl 2 rfl rfl) (D, d, O) hF rfl (fun w h => ((h.sel 3 [1, 0, 2] (by decide)).mask [true, false, false])))
     | (refine s_isw ?_; first
     | refine c_seq ?_
     | refine c_block ?_
     | refine c_region ?_
     | refine c_mixed mixed (by kernel_rfl) ?_
     | refine c_skip ?_
     | refine c_ret ?_
     | refine c_exit ?_
     | (refine s_iscond ?_; first
     | (refine c_true rfl (by first | with_reducible rfl | with_reducible assumption | ((with_reducible refine decide_eq_true ?_); first | with_reducible rfl | with_reducible assumption | omega)) ?_)
     | (refine c_false rfl (by first | with_reducible rfl | with_reducible assumption | ((with_reducible refine decide_eq_false ?_); first | with_reducible assumption | omega)) ?_)
     | (refine c_true rfl (by first | (simp only [Bool.not_eq_true', decide_eq_false_iff_not]; omega) | (with_reducible assumption) | (rw [decide_eq_false] <;> (first | omega | with_reducible rfl)) | (rw [decide_eq_true] <;> (first | omega | with_reducible rfl)) | (simp; done) | (simp; omega)) ?_)
     | (refine c_false rfl (by first | (simp only [Bool.not_eq_false', decide_eq_true_eq]; omega) | (with_reducible assumption) | (rw [decide_eq_false] <;> (first | omega | with_reducible rfl)) | (rw [decide_eq_true] <;> (first | omega | with_reducible rfl)) | (simp; done) | (simp; omega)) ?_)
     | refine c_cond rfl (fun hc => ?_) (fun hc => ?_)
     | refine c_condb rfl (fun hc => ?_) (fun hc => ?_)))
     | refine x_then ?_
     | refine x_then_ret ?_
     | refine x_then_exit ?_
     | refine x_block _ ?_
     | refine x_block_ret _ ?_
     | refine x_block_exit _ ?_
     | refine x_block_past (by decide) ?_
     | refine z_tailm ?_)
     | (refine z_isnil ?_; first
     | refine z_list ?_
     | refine z_mixed ?_
     | refine z_mono0 ?_
     | refine z_mono1 (by decide) fun g => ?_
     | refine z_mono2 (by decide) (by decide) fun g g' => ?_
     | refine z_mixedx ?_
     | refine z_quiet ?_)
     | (refine z_isop ?_; first
     | refine o_alloca (e := 84) (vs := rcs (0, 0)) rfl (by kernel_rfl) (by decide) fun g7 => ?_
     | refine o_boxa (vs := [.slice A R.length c]) rfl rfl (by decide) fun g => ?_
     | (refine z_isbin ?_; first
     | (refine z_isb .add ?_; first
     | refine o_add rfl rfl (by omega) (by omega) (by decide) ?_
     | refine o_addw rfl rfl (by decide) ?_)
     | (refine z_isb .sub ?_; first
     | refine o_sub rfl rfl (by omega) (by omega) (by decide) ?_
     | refine o_subw rfl rfl (by decide) ?_)
     | (refine z_isb .lss ?_; first
     | refine o_lt rfl rfl (by decide) ?_)
     | (refine z_isb .leq ?_; first
     | refine o_le rfl rfl (by decide) ?_))
     | (refine z_isload ?_; first
     | (refine z_ld1 tabOk rfl rfl ?_; first
     | refine o_loadm tabOk rfl rfl rfl (by repeat' (first | exact List.mem_cons_self | apply List.mem_cons_of_mem)) (by first | exact rcs_f _ | exact rcs_t _ | rfl | rfl) (by decide) ?_
     | refine o_loads tabOk (by first | exact own_rds 0 rfl | exact own_rds 1 rfl | exact own_rds 2 rfl | assumption) rfl rfl rfl (by first | exact rcs_f _ | exact rcs_t _ | rfl | rfl) (by decide) ?_)
     | (refine z_ldw tabOk rfl rfl ?_; first
     | (refine o_loadwm tabOk rfl rfl rfl (by repeat' (first | exact List.mem_cons_self | apply List.mem_cons_of_mem)) (by first | rfl | exact rcs_len _ | (simp only [rcs_len]; done) | rfl) (by decide) ?_)))
     | (refine z_isstore ?_; first
     | (refine z_stw rfl ?_; first
     | ((refine z_sti 0 rfl rfl ?_; refine o_storeb0 rfl tabOk rfl rfl rfl (by first | rfl | exact rcs_len _ | (simp only [rcs_len]; done) | rfl) (by first | rfl | exact rcs_one _ | rfl) (by first | rfl | exact rcs_len _ | (simp only [rcs_len]; done) | rfl) ?_))
     | ((refine z_sti 1 rfl rfl ?_; refine o_storeb1 rfl tabOk rfl rfl rfl (by first | rfl | exact rcs_len _ | (simp only [rcs_len]; done) | rfl) (by first | rfl | exact rcs_one _ | rfl) (by first | rfl | exact rcs_len _ | (simp only [rcs_len]; done) | rfl) ?_))
     | ((refine z_sti 2 rfl rfl ?_; refine o_storeb2 rfl tabOk rfl rfl rfl (by first | rfl | exact rcs_len _ | (simp only [rcs_len]; done) | rfl) (by first | rfl | exact rcs_one _ | rfl) (by first | rfl | exact rcs_len _ | (simp only [rcs_len]; done) | rfl) ?_))
     | ((refine z_sti 3 rfl rfl ?_; refine o_storeb3 rfl tabOk rfl rfl rfl (by first | rfl | exact rcs_len _ | (simp only [rcs_len]; done) | rfl) (by first | rfl | exact rcs_one _ | rfl) (by first | rfl | exact rcs_len _ | (simp only [rcs_len]; done) | rfl) ?_))
     | ((refine z_sti 4 rfl rfl ?_; refine o_storeb4 rfl tabOk rfl rfl rfl (by first | rfl | exact rcs_len _ | (simp only [rcs_len]; done) | rfl) (by first | rfl | exact rcs_one _ | rfl) (by first | rfl | exact rcs_len _ | (simp only [rcs_len]; done) | rfl) ?_))
     | ((refine z_sti 5 rfl rfl ?_; refine o_storeb5 rfl tabOk rfl rfl rfl (by first | rfl | exact rcs_len _ | (simp only [rcs_len]; done) | rfl) (by first | rfl | exact rcs_one _ | rfl) (by first | rfl | exact rcs_len _ | (simp only [rcs_len]; done) | rfl) ?_))
     | ((refine z_sti 6 rfl rfl ?_; refine o_storeb6 rfl tabOk rfl rfl rfl (by first | rfl | exact rcs_len _ | (simp only [rcs_len]; done) | rfl) (by first | rfl | exact rcs_one _ | rfl) (by first | rfl | exact rcs_len _ | (simp only [rcs_len]; done) | rfl) ?_)))
     | (refine z_st1 rfl rfl ?_; first
     | refine o_store rfl tabOk rfl rfl rfl rfl rfl (by first | exact rcs_f _ | exact rcs_t _ | rfl | rfl) (by first | rfl) ?_
     | ((refine z_sti 1 rfl rfl ?_; refine o_store1 rfl tabOk rfl rfl rfl rfl rfl (by first | exact rcs_f _ | exact rcs_t _ | rfl | rfl) (by first | rfl) ?_))
     | ((refine z_sti 2 rfl rfl ?_; refine o_store2 rfl tabOk rfl rfl rfl rfl rfl (by first | exact rcs_f _ | exact rcs_t _ | rfl | rfl) (by first | rfl) ?_))
     | ((refine z_sti 3 rfl rfl ?_; refine o_store3 rfl tabOk rfl rfl rfl rfl rfl (by first | exact rcs_f _ | exact rcs_t _ | rfl | rfl) (by first | rfl) ?_))
     | ((refine z_sti 4 rfl rfl ?_; refine o_store4 rfl tabOk rfl rfl rfl rfl rfl (by first | exact rcs_f _ | exact rcs_t _ | rfl | rfl) (by first | rfl) ?_))
     | ((refine z_sti 5 rfl rfl ?_; refine o_store5 rfl tabOk rfl rfl rfl rfl rfl (by first | exact rcs_f _ | exact rcs_t _ | rfl | rfl) (by first | rfl) ?_))
     | ((refine z_sti 6 rfl rfl ?_; refine o_store6 rfl tabOk rfl rfl rfl rfl rfl (by first | exact rcs_f _ | exact rcs_t _ | rfl | rfl) (by first | rfl) ?_))))
     | (refine z_ismakes ?_; first
     | refine o_make1 rfl tabOk zeroOk rfl rfl rfl rfl rfl (by decide) fun g => ?_)
     | (refine z_isix ?_; first
     | refine o_index0 tabOk rfl rfl rfl rfl (by omega) (by omega) (by decide) ?_
     | refine o_index1 tabOk rfl rfl rfl rfl (by omega) (by omega) (by decide) ?_
     | refine o_indexsk1 tabOk rfl rfl rfl rfl (by omega) (by omega) (by decide) ?_
     | refine o_indexsk tabOk rfl rfl rfl rfl (by omega) (by omega) (by decide) ?_
     | refine o_indexs1 tabOk (by first | exact hne (by omega) | assumption) rfl rfl rfl rfl (by omega) (by omega) (by decide) ?_)
     | (refine z_isbi ?_; first
     | refine o_len tabOk rfl rfl (by decide) ?_
     | refine o_min rfl rfl (by decide) ?_
     | refine o_max rfl rfl (by decide) ?_
     | (refine o_append0 rfl tabOk zeroOk rfl rfl rfl rfl rfl rfl (by first | exact own_rds 0 rfl | exact own_rds 1 rfl | exact own_rds 2 rfl | assumption) (by first | rfl | (simp; done)) (by first | rfl | (simp; done)) (by omega) (by omega) (by decide) fun A' c' => ?_)
     | (refine o_append rfl tabOk zeroOk rfl rfl rfl rfl rfl rfl (by first | exact own_rds 0 rfl | exact own_rds 1 rfl | exact own_rds 2 rfl | assumption) (by first | rfl | (simp; done)) (by first | rfl | (simp; done)) (by omega) (by omega) (by decide) fun A' c' => ?_)
     | (refine z_front rfl 1 rfl ?_; refine o_append rfl tabOk zeroOk rfl rfl rfl rfl rfl rfl (by first | exact own_rds 0 rfl | exact own_rds 1 rfl | exact own_rds 2 rfl | assumption) (by first | rfl | (simp; done)) (by first | rfl | (simp; done)) (by omega) (by omega) (by decide) fun A' c' => ?_)
     | (refine z_front rfl 2 rfl ?_; refine o_append rfl tabOk zeroOk rfl rfl rfl rfl rfl rfl (by first | exact own_rds 0 rfl | exact own_rds 1 rfl | exact own_rds 2 rfl | assumption) (by first | rfl | (simp; done)) (by first | rfl | (simp; done)) (by omega) (by omega) (by decide) fun A' c' => ?_)
     | (refine z_front rfl 3 rfl ?_; refine o_append rfl tabOk zeroOk rfl rfl rfl rfl rfl rfl (by first | exact own_rds 0 rfl | exact own_rds 1 rfl | exact own_rds 2 rfl | assumption) (by first | rfl | (simp; done)) (by first | rfl | (simp; done)) (by omega) (by omega) (by decide) fun A' c' => ?_)
     | (refine z_front rfl 4 rfl ?_; refine o_append rfl tabOk zeroOk rfl rfl rfl rfl rfl rfl (by first | exact own_rds 0 rfl | exact own_rds 1 rfl | exact own_rds 2 rfl | assumption) (by first | rfl | (simp; done)) (by first | rfl | (simp; done)) (by omega) (by omega) (by decide) fun A' c' => ?_)
     | (refine z_front rfl 5 rfl ?_; refine o_append rfl tabOk zeroOk rfl rfl rfl rfl rfl rfl (by first | exact own_rds 0 rfl | exact own_rds 1 rfl | exact own_rds 2 rfl | assumption) (by first | rfl | (simp; done)) (by first | rfl | (simp; done)) (by omega) (by omega) (by decide) fun A' c' => ?_))
     | refine o_move rfl (by decide) ?_
     | refine o_assign rfl (by decide) ?_
     | refine o_nil rfl (by decide) ?_
     | refine o_extract rfl rfl (by decide) ?_
     | refine o_not rfl (by decide) ?_
     | refine o_field0 tabOk rfl rfl rfl rfl rfl (by decide) ?_
     | refine o_field tabOk rfl rfl rfl rfl rfl (by decide) ?_
     | refine o_conv tabOk rfl rfl rfl (by decide) ?_))
end Go.Proofs.Ytjjhlkjnjbagfaa
