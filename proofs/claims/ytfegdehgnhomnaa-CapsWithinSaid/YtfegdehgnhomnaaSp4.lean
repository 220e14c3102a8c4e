/-
Span: cuts; two sets laid together.
-/
import Derived.Test.YtfegdehgnhomnaaSp3
namespace Go.Proofs.Ytfegdehgnhomnaa
set_option linter.unusedVariables false
set_option linter.unusedSimpArgs false
open Eng
theorem ilS_len (l : List Int) : (ilS l).length = l.length := by simp [ilS]
theorem ilS_nil : ilS [] = [] := rfl
theorem ilS_two (l : List Int) (x y : Int) : ilS (l ++ [x, y]) = ilS l ++ [.int .i64 x, .int .i64 y] := by simp [ilS]
theorem ilS_at {L : List Int} {k : Nat} (h : k < L.length) : (ilS L)[((k : Int)).toNat]? = some (.int .i64 (L.getD k 0)) := by rw [Int.toNat_natCast]; simp [ilS, h]
theorem ilS_at1 {L : List Int} {k : Nat} (h : k + 1 < L.length) : (ilS L)[((k : Int) + 1).toNat]? = some (.int .i64 (L.getD (k + 1) 0)) := by
  rw [show ((k : Int) + 1).toNat = k + 1 by omega]; simp [ilS, h]
/-- The ends of the first k rows. -/
def en (R : List Rw) : Nat → List Int
  | 0 => []
  | k + 1 => en R k ++ [(at' R k).1, (at' R k).2]
theorem en_zero (R : List Rw) : en R 0 = [] := rfl
theorem en_succ (R : List Rw) (k : Nat) : en R (k + 1) = en R k ++ [(at' R k).1, (at' R k).2] := rfl
theorem en_len (R : List Rw) : ∀ k, (en R k).length = 2 * k
  | 0 => rfl
  | k + 1 => by rw [en_succ, List.length_append, en_len R k]; show 2 * k + 2 = _; omega
theorem en_ends (R : List Rw) : ∀ k, k ≤ R.length → en R k = ends (R.take k)
  | 0, _ => by simp [en, ends]
  | k + 1, h => by
    rw [en_succ, en_ends R k (by omega), List.take_add_one, at_get (by omega)]
    unfold ends
    rw [List.flatMap_append]
    simp
theorem en_all (R : List Rw) : en R R.length = ends R := by rw [en_ends R _ (Nat.le_refl _), List.take_length]
theorem getD_get {L : List Int} {i : Nat} (h : i < L.length) : L.getD i 0 = L[i] := by simp [h]
theorem srt_sorted (L : List Int) : ∀ i j, i ≤ j → j < (srt L).length → (srt L).getD i 0 ≤ (srt L).getD j 0 := fun i j hij hj => by
  have h := List.pairwise_mergeSort (le := fun x y : Int => decide (x ≤ y)) (fun a b c h1 h2 => by simp at h1 h2 ⊢; omega) (fun a b => by simp; omega) L
  have hi : i < (srt L).length := by omega
  have e1 : (srt L).getD i 0 = (srt L)[i] := getD_get hi
  have e2 : (srt L).getD j 0 = (srt L)[j] := getD_get hj
  rw [e1, e2]
  by_cases e : i = j
  · subst e; exact Int.le_refl _
  · have := (List.pairwise_iff_getElem.1 h) i j hi hj (by omega)
    simpa using this
theorem srt_mem (L : List Int) (x : Int) : x ∈ srt L ↔ x ∈ L := (List.mergeSort_perm L _).mem_iff
theorem mem_getD {L : List Int} {x : Int} (h : x ∈ L) : ∃ i, i < L.length ∧ L.getD i 0 = x := by
  obtain ⟨i, hi, e⟩ := List.getElem_of_mem h
  exact ⟨i, hi, by simp [hi, e]⟩
theorem row_of {R : List Rw} (hR : Okr R) {r : Rw} (h : r ∈ R) : 0 ≤ r.1 ∧ r.1 < r.2 ∧ r.2 ≤ 1024 := by
  obtain ⟨k, hk, e⟩ := List.getElem_of_mem h
  have : at' R k = r := by rw [← e]; simp [at', hk]
  rw [← this]; exact hR.row hk
def cu (a b : List Rw) : List Int := srt (ends (a ++ b))
theorem cuts_ok {a b : List Rw} (ha : Okr a) (hb : Okr b) : Cuts a b (cu a b) := by
  unfold cu
  refine ⟨srt_sorted _, fun r hr => ?_, fun i hi => ?_⟩
  · have hm : r ∈ a ++ b := List.mem_append.2 hr
    obtain ⟨h1, h2⟩ := ends_mem hm
    exact ⟨mem_getD ((srt_mem _ _).2 h1), mem_getD ((srt_mem _ _).2 h2)⟩
  · have hm : (srt (ends (a ++ b))).getD i 0 ∈ srt (ends (a ++ b)) := by
      have e : (srt (ends (a ++ b))).getD i 0 = (srt (ends (a ++ b)))[i] := getD_get hi
      rw [e]; exact List.getElem_mem hi
    have := (srt_mem _ _).1 hm
    unfold ends at this
    obtain ⟨r, hr, hx⟩ := List.mem_flatMap.1 this
    have hrow : 0 ≤ r.1 ∧ r.1 < r.2 ∧ r.2 ≤ 1024 := by
      rcases List.mem_append.1 hr with h | h
      · exact row_of ha h
      · exact row_of hb h
    simp only [List.mem_cons, List.mem_nil_iff, or_false] at hx
    unfold ends
    rcases hx with hx | hx <;> rw [hx] <;> omega
/-! ### The last row -/
theorem last_at {O : List Rw} (h : O ≠ []) : (at' O (O.length - 1)).2 = lastTo (-1) O := by
  obtain ⟨Q, f, t, hO, hl, hg⟩ := snoc_of h
  have : at' O (O.length - 1) = (f, t) := hg
  rw [this, hO, lastTo_snoc]
theorem rc_last {O : List Rw} (h : O ≠ []) : (rc O)[((O.length : Int) - 1).toNat * 2 + 1]? = some (.int .i64 (lastTo (-1) O)) := by
  have hl : 0 < O.length := List.length_pos_iff.2 h
  have e : ((O.length : Int) - 1).toNat = O.length - 1 := by omega
  rw [e, ← last_at h]
  exact rc_el O (by omega) 1 _ rfl
theorem rc_push {O : List Rw} (h : O ≠ []) {f : Int} (hf : lastTo (-1) O = f) (t : Int) : (rc O).set (((O.length : Int) - 1).toNat * 2 + 1) (.int .i64 t) = rc (push O f t) ∧ (push O f t).length = O.length := by
  have hl : 0 < O.length := List.length_pos_iff.2 h
  have e : ((O.length : Int) - 1).toNat = O.length - 1 := by omega
  have ep : push O f t = O.set (O.length - 1) ((O.getD (O.length - 1) (0, 0)).1, t) := by unfold push; rw [if_pos ⟨hf, h⟩]
  rw [e, ep]
  refine ⟨?_, List.length_set⟩
  obtain ⟨Q, f0, t0, hO, hlen, hg⟩ := snoc_of h
  rw [hg]
  rw [hO, show (Q ++ [(f0, t0)]).length - 1 = Q.length by simp]
  have e1 : (Q ++ [(f0, t0)]).set Q.length ((f0, t0).1, t) = Q ++ [(f0, t)] := by simp
  rw [e1, rc_add, rc_add, rcs_mk, rcs_mk]
  have e2 : Q.length * 2 + 1 = (rc Q).length + 1 := by rw [rc_len]
  rw [e2]
  simp
theorem push_new {O : List Rw} {f t : Int} (h : ¬ (lastTo (-1) O = f ∧ O ≠ [])) : push O f t = O ++ [(f, t)] := by unfold push; rw [if_neg h]
theorem cu_le {a b : List Rw} (ha : Okr a) (hb : Okr b) (i : Nat) (hi : i < (cu a b).length) : (cu a b).getD i 0 ≤ 1024 := by
  unfold cu at hi ⊢
  have hm : (srt (ends (a ++ b))).getD i 0 ∈ srt (ends (a ++ b)) := by
    rw [getD_get hi]; exact List.getElem_mem hi
  have := (srt_mem _ _).1 hm
  unfold ends at this
  obtain ⟨r, hr, hx⟩ := List.mem_flatMap.1 this
  have hrow : 0 ≤ r.1 ∧ r.1 < r.2 ∧ r.2 ≤ 1024 := by
    rcases List.mem_append.1 hr with h | h
    · exact row_of ha h
    · exact row_of hb h
  simp only [List.mem_cons, List.mem_nil_iff, or_false] at hx
  unfold ends
  rcases hx with hx | hx <;> rw [hx] <;> omega
theorem last_nn {R : List Rw} (h : R ≠ []) : 0 < R.length := List.length_pos_iff.2 h
attribute [local irreducible] Eng.Hold Eng.Z Eng.S Eng.cells Eng.old Eng.own rc rcs at' hasB Sep lastTo push
attribute [local irreducible] cmpR lenN ofR en mg cu ilS
set_option maxHeartbeats 4000000 in
theorem merge_c (a b R : List Rw) (ha : Okr a) (hb : Okr b) (hR : Okr R) (keep : Bool → Bool → Bool) (hk0 : keep false false = false) (hm : ∀ j, hasB R j = keep (hasB a j) (hasB b j)) (kf : Nat) (fn : Func) (hkf : Try.prog.funcs[kf]? = some fn) (hkb : fn.body.isNone = false) (hkn : (fn.name == "runtime.NumGoroutine") = false) (hkp : ∀ x y, Pf Try.prog kf [.bool x, .bool y] (.bool (keep x y)))
    (A B : Option Addr) (ca cb : Nat) (fr : List Chunk) (hrdA : Rds fr A (rc a)) (hrdB : Rds fr B (rc b)) :
    Does Try.prog 45 [.agg #[.slice A a.length ca], .agg #[.slice B b.length cb], .func (.func kf) #[] #[]] fr (fun _ : Option Addr × Nat => True) (fun x => .agg #[.slice x.1 R.length x.2]) (fun x => own x.1 x.2 75 2 R.length (rc R) :: fr) := by
  intro w hw
  have hab : (a ++ b).length = a.length + b.length := List.length_append
  have hla := ha.len
  have hlb := hb.len
  refine f_enter Try.func45 rfl Try.ntmps45 rfl hw ?_
  have hcu : srt (en (a ++ b) (a ++ b).length) = cu a b := by unfold cu; rw [en_all]
  have hcl : (en (a ++ b) (a ++ b).length).length = (cu a b).length := by rw [← hcu, srt_len]
  have hcl2 : (cu a b).length = 2 * (a ++ b).length := by rw [← hcl, en_len]
  have hC := cuts_ok ha hb
  have hend := mg_end hC hk0 hR.s hm
  repeat' (first
   | (refine s_is ?_; first
   | (refine s_isw ?_; first
   | (refine s_isloop ?_; first
   | ((refine c_loop (X := Option Addr × Nat × Nat) (fun y => y.2.2 ≤ (a ++ b).length) (fun y => [(2, .func (.func kf) #[] #[]), (3, .pointer (some ⟨g3, 0, none⟩)), (4, .pointer (some ⟨g4, 0, none⟩)), (6, .pointer (some ⟨g6, 0, none⟩)), (7, .slice y.1 (en (a ++ b) y.2.2).length y.2.1), (21, .slice x.1 (a ++ b).length x.2), (22, .int .i64 (a ++ b).length), (23, .int .i64 y.2.2)]) (fun y => own y.1 y.2.1 3 1 (en (a ++ b) y.2.2).length (ilS (en (a ++ b) y.2.2)) :: own x.1 x.2 75 2 (a ++ b).length (rc (a ++ b)) :: cells g6 31 [.slice none 0 0] :: cells g4 31 [.slice B b.length cb] :: cells g3 31 [.slice A a.length ca] :: fr) (fun y => (a ++ b).length - y.2.2) (some ⟨g7, 0, none⟩, 0, 0) (Nat.zero_le _) ⟨rfl, rfl, rfl, rfl, (by dsimp only; rw [en_zero]; rfl), rfl, rfl, rfl, trivial⟩ (fun w h => by dsimp only; rw [en_zero, ilS_nil]; exact ((h.sel 6 [2, 0, 3, 4, 5, 1] (by decide)).mask [true, true, true, true, true, false])) (fun y hk => ?_); obtain ⟨C, c, k⟩ := y; dsimp only at hk ⊢; refine c_own2 1 rfl fun hkc hne => ?_; refine hold ?_)))
   | refine c_seq ?_
   | refine c_block ?_
   | refine c_region ?_))
   | (refine z_isnil ?_; first
   | refine z_list ?_)
   | (refine z_isop ?_; first
   | refine o_boxa (vs := [.slice A a.length ca]) rfl rfl (by decide) fun g3 => ?_
   | refine o_boxa (vs := [.slice B b.length cb]) rfl rfl (by decide) fun g4 => ?_
   | refine o_alloca (e := 31) (vs := [.slice none 0 0]) rfl (by kernel_rfl) (by decide) fun g6 => ?_
   | refine o_make0 rfl tabOk rfl rfl (by decide) fun g7 => ?_
   | refine o_make2 rfl tabOk zeroOk rfl rfl rfl rfl rfl rfl rfl (by decide) fun gs => ?_
   | (refine z_isload ?_; first
   | (refine z_ld1 tabOk rfl rfl ?_; first
   | refine o_loadm tabOk rfl rfl rfl (by repeat' (first | exact List.mem_cons_self | apply List.mem_cons_of_mem)) (by first | exact (by rw [ilS_at (by omega), hf]) | exact (by rw [ilS_at1 (by omega), ht]) | exact rc_last hon | exact rcs_f _ | exact rcs_t _ | rfl | rfl) (by decide) ?_))
   | (refine z_iscall ?_; first
   | ((refine z_iscallf 51 ?_; refine o_calla Try.func51 rfl rfl rfl (concat_c a b A B ca cb _ _ (own_rds 0 rfl) (by repeat (first | exact hrdA | apply Rds.cons)) (by repeat (first | exact hrdB | apply Rds.cons)) (by omega)) (by decide) fun x _ => ?_)))
   | (refine z_isbi ?_; first
   | refine o_len tabOk rfl rfl (by decide) ?_)
   | refine o_move rfl (by decide) ?_
   | refine o_assign rfl (by decide) ?_
   | refine o_field0 tabOk rfl rfl rfl rfl rfl (by decide) ?_))
  refine Hold.go ?_
  have hel := en_len (a ++ b) k
  by_cases hkl : k < (a ++ b).length
  · have he : (en (a ++ b) (k + 1)).length = (en (a ++ b) k).length + 2 := by rw [en_succ, List.length_append]; rfl
    have he2 : ilS (en (a ++ b) (k + 1)) = ilS (en (a ++ b) k) ++ [.int .i64 (at' (a ++ b) k).1, .int .i64 (at' (a ++ b) k).2] := by rw [en_succ, ilS_two]
    repeat' (first
     | (refine s_is ?_; first
     | (refine s_isagain ?_; first
     | (exact c_again (A', c', k + 1) (by dsimp only; omega) (by dsimp only; omega) ⟨rfl, rfl, rfl, rfl, (by dsimp only; rw [he]; rfl), rfl, rfl, rfl, trivial⟩ (fun w h => by dsimp only; rw [he, he2]; exact ((h.sel 7 [0, 3, 4, 5, 6, 1, 2] (by decide)).mask [true, true, true, true, true, false, false]))))
     | (refine s_isw ?_; first
     | refine c_seq ?_
     | refine c_block ?_
     | refine c_region ?_
     | refine c_skip ?_
     | (refine s_iscond ?_; first
     | (refine c_true rfl (by first | with_reducible rfl | with_reducible assumption | ((with_reducible refine decide_eq_true ?_); first | with_reducible rfl | with_reducible assumption | omega)) ?_))))
     | (refine z_isnil ?_; first
     | refine z_list ?_)
     | (refine z_isop ?_; first
     | refine o_indexsn tabOk (hne (by omega)) rfl rfl rfl rfl (by omega) (by omega) (by decide) ?_
     | refine o_alloca (e := 75) (vs := rcs (0, 0)) rfl (by kernel_rfl) (by decide) fun g9 => ?_
     | refine o_make2 rfl tabOk zeroOk rfl rfl rfl rfl rfl rfl rfl (by decide) fun gs => ?_
     | (refine z_isbin ?_; first
     | (refine z_isb .add ?_; first
     | refine o_add rfl rfl (by omega) (by omega) (by decide) ?_)
     | (refine z_isb .lss ?_; first
     | refine o_lt rfl rfl (by decide) ?_))
     | (refine z_isload ?_; first
     | (refine o_loadsw tabOk (own_rds 1 rfl) rfl rfl rfl (es := rcs (at' (a ++ b) k)) (rcs_len _) (by rw [rcs_len]; decide) (fun j u hu => by rw [Int.toNat_natCast]; exact rc_el (a ++ b) (by omega) j u hu) (by decide) ?_)
     | (refine z_ld1 tabOk rfl rfl ?_; first
     | refine o_loadm tabOk rfl rfl rfl (by repeat' (first | exact List.mem_cons_self | apply List.mem_cons_of_mem)) (by first | exact (by rw [ilS_at (by omega), hf]) | exact (by rw [ilS_at1 (by omega), ht]) | exact rc_last hon | exact rcs_f _ | exact rcs_t _ | rfl | rfl) (by decide) ?_))
     | (refine z_isstore ?_; first
     | (refine z_stw rfl ?_; first
     | ((refine z_sti 0 rfl rfl ?_; refine o_storeb0 rfl tabOk rfl rfl rfl (by first | rfl | exact rcs_len _ | (simp only [rcs_len]; done) | rfl) (by first | rfl | exact rcs_one _ | exact rc_one _ | rfl) (by first | rfl | exact rcs_len _ | (simp only [rcs_len]; done) | rfl) ?_))))
     | (refine z_isbi ?_; first
     | (refine z_front rfl 2 rfl ?_; refine o_append rfl tabOk zeroOk rfl rfl rfl rfl rfl rfl (by first | exact own_rds 0 rfl | exact own_rds 1 rfl | exact own_rds 2 rfl | exact own_rds 3 rfl | assumption) (by first | rfl | rfl | (simp; done)) (by first | rfl | rfl | (simp; done)) (by omega) (by omega) (by decide) fun A' c' => ?_))
     | refine o_move rfl (by decide) ?_
     | refine o_assign rfl (by decide) ?_
     | refine o_field0 tabOk rfl rfl rfl rfl rfl (by decide) ?_))
  · obtain rfl : k = (a ++ b).length := by omega
    repeat' (first
     | ((refine z_isdst 10 ?_; refine o_alloca (e := 31) (vs := [.slice none 0 0]) rfl (by kernel_rfl) (by decide) fun g10 => ?_))
     | (refine s_is ?_; first
     | (refine s_isw ?_; first
     | (refine s_isloop ?_; first
     | ((refine c_loop (X := Option Addr × Nat × Nat) (fun y => y.2.2 ≤ (cu a b).length - 1) (fun y => [(2, .func (.func kf) #[] #[]), (3, .pointer (some ⟨g3, 0, none⟩)), (4, .pointer (some ⟨g4, 0, none⟩)), (6, .pointer (some ⟨g6, 0, none⟩)), (7, .slice C (cu a b).length c), (10, .pointer (some ⟨g10, 0, none⟩)), (11, .int .i64 y.2.2)]) (fun y => cells g10 31 [.slice y.1 (mg a b keep (cu a b) y.2.2).length y.2.1] :: own y.1 y.2.1 75 2 (mg a b keep (cu a b) y.2.2).length (rc (mg a b keep (cu a b) y.2.2)) :: own C c 3 1 (cu a b).length (ilS (cu a b)) :: cells g6 31 [.slice none 0 0] :: cells g4 31 [.slice B b.length cb] :: cells g3 31 [.slice A a.length ca] :: fr) (fun y => (cu a b).length - y.2.2) (none, 0, 0) (Nat.zero_le _) ⟨rfl, rfl, rfl, rfl, (by rw [← hcl]; rfl), rfl, rfl, trivial⟩ (fun w h => by dsimp only; rw [hcu, hcl] at h; rw [mg_zero, rc_nil]; exact ((((h.sel 6 [0, 1, 3, 4, 5, 2] (by decide)).mask [true, true, true, true, true, false])).nil 75 2).sel 6 [1, 0, 2, 3, 4, 5] (by decide)) (fun y hk => ?_); obtain ⟨D, d, i⟩ := y; dsimp only at hk ⊢; refine c_own2 2 rfl fun hkc3 hneC => ?_; refine c_own2 1 rfl fun hkc4 hneD => ?_; refine hold ?_)))
     | refine c_seq ?_
     | refine c_block ?_
     | refine c_region ?_
     | refine c_exit ?_
     | (refine s_iscond ?_; first
     | (refine c_false rfl (by first | with_reducible rfl | with_reducible assumption | ((with_reducible refine decide_eq_false ?_); first | with_reducible assumption | omega)) ?_))))
     | (refine z_isnil ?_; first
     | refine z_list ?_)
     | (refine z_isop ?_; first
     | (refine z_isbin ?_; first
     | (refine z_isb .lss ?_; first
     | refine o_lt rfl rfl (by decide) ?_))
     | (refine z_iscall ?_; first
     | ((refine z_iscallf 52 ?_; refine o_call Try.func52 rfl rfl rfl (sort_c (en (a ++ b) (a ++ b).length) _ _ (by omega)) (List.Perm.refl _) (by decide) fun _ _ => ?_)))
     | refine o_move rfl (by decide) ?_
     | refine o_assign rfl (by decide) ?_))
    refine Hold.go ?_
    by_cases hl : i + 1 < (cu a b).length
    · obtain ⟨s1, s2, s3⟩ := mg_spec hC hk0 i (by omega)
      have hlen2 := sep_len s1
      have hz := hC.z i (by omega)
      have hle := hC.s i (i + 1) (by omega) (by omega)
      have hmax : (mg a b keep (cu a b) i).length ≤ 1000000 := by
        have h1 := mg_spec hC hk0 ((cu a b).length - 1) (by omega)
        have h2 := hC.s i ((cu a b).length - 1) (by omega) (by omega)
        have h3 := cu_le ha hb ((cu a b).length - 1) (by omega)
        omega
      generalize hO : mg a b keep (cu a b) i = O at *
      generalize hf : (cu a b).getD i 0 = f at *
      generalize ht : (cu a b).getD (i + 1) 0 = t at *
      by_cases hc : f = t ∨ keep (hasB a f) (hasB b f) = false
      · have hn : mg a b keep (cu a b) (i + 1) = O := by rw [mg_no (by rw [hf, ht]; exact hc), hO]
        by_cases hft : f = t
        · skip
          repeat' (first
           | (refine s_is ?_; first
           | (refine s_isagain ?_; first
           | (exact c_again (D, d, i + 1) (by dsimp only; omega) (by dsimp only; omega) ⟨rfl, rfl, rfl, rfl, rfl, rfl, rfl, trivial⟩ (fun w h => by dsimp only; rw [hn]; exact h)))
           | (refine s_isw ?_; first
           | refine c_seq ?_
           | refine c_block ?_
           | refine c_region ?_
           | refine c_mixed mixed (by kernel_rfl) ?_
           | refine c_skip ?_
           | refine c_exit ?_
           | (refine s_iscond ?_; first
           | (refine c_true rfl (by first | with_reducible rfl | with_reducible assumption | ((with_reducible refine decide_eq_true ?_); first | with_reducible rfl | with_reducible assumption | omega)) ?_))))
           | (refine z_isg0 ?_; first
           | (refine z_skip0 (by decide) rfl rfl (by first | with_reducible rfl | with_reducible assumption | ((with_reducible refine decide_eq_true ?_); first | with_reducible rfl | with_reducible assumption | omega)) ?_))
           | (refine z_isnil ?_; first
           | refine z_list ?_
           | refine z_mixed ?_)
           | (refine z_isop ?_; first
           | (refine z_isbin ?_; first
           | (refine z_isb .add ?_; first
           | refine o_add rfl rfl (by omega) (by omega) (by decide) ?_)
           | (refine z_isb .eql ?_; first
           | refine o_eq rfl rfl (by decide) ?_)
           | (refine z_isb .lss ?_; first
           | refine o_lt rfl rfl (by decide) ?_))
           | (refine z_isload ?_; first
           | (refine z_ld1 tabOk rfl rfl ?_; first
           | refine o_loads tabOk (by first | exact own_rds 0 rfl | exact own_rds 1 rfl | exact own_rds 2 rfl | exact own_rds 3 rfl | assumption) rfl rfl rfl (by first | exact (by rw [ilS_at (by omega), hf]) | exact (by rw [ilS_at1 (by omega), ht]) | exact rc_last hon | exact rcs_f _ | exact rcs_t _ | rfl | rfl) (by decide) ?_))
           | (refine z_ispick ?_; first
           | (refine o_pick1 rfl (by first | with_reducible rfl | with_reducible assumption | ((with_reducible refine decide_eq_true ?_); first | with_reducible rfl | with_reducible assumption | omega)) rfl (by decide) ?_))
           | (refine z_isix ?_; first
           | refine o_indexs1 tabOk (by first | exact hneC (by omega) | exact hneD (by omega) | assumption) rfl rfl rfl rfl (by omega) (by omega) (by decide) ?_)
           | (refine z_isbi ?_; first
           | refine o_len tabOk rfl rfl (by decide) ?_)
           | refine o_move rfl (by decide) ?_
           | refine o_assign rfl (by decide) ?_))
        · have hkk : keep (hasB a f) (hasB b f) = false := hc.resolve_left hft
          have hkk' : (!keep (hasB a f) (hasB b f)) = true := by rw [hkk]; rfl
          repeat' (first
           | ((refine z_isfv ?_; refine o_callrf rfl rfl hkf hkb hkn rfl ((hkp _ _).frame _) (by decide) ?_))
           | (refine s_is ?_; first
           | (refine s_isagain ?_; first
           | (exact c_again (D, d, i + 1) (by dsimp only; omega) (by dsimp only; omega) ⟨rfl, rfl, rfl, rfl, rfl, rfl, rfl, trivial⟩ (fun w h => by dsimp only; rw [hn]; exact h)))
           | (refine s_isw ?_; first
           | refine c_seq ?_
           | refine c_block ?_
           | refine c_region ?_
           | refine c_mixed mixed (by kernel_rfl) ?_
           | refine c_skip ?_
           | refine c_exit ?_
           | (refine s_iscond ?_; first
           | (refine c_true rfl (by first | with_reducible rfl | with_reducible assumption | ((with_reducible refine decide_eq_true ?_); first | with_reducible rfl | with_reducible assumption | omega)) ?_))))
           | (refine z_isg0 ?_; first
           | (refine z_want0 rfl rfl (by first | with_reducible rfl | with_reducible assumption | ((with_reducible refine decide_eq_false ?_); first | with_reducible assumption | omega)) ?_))
           | (refine z_isnil ?_; first
           | refine z_list ?_
           | refine z_mixed ?_)
           | (refine z_isop ?_; first
           | (refine z_isbin ?_; first
           | (refine z_isb .add ?_; first
           | refine o_add rfl rfl (by omega) (by omega) (by decide) ?_)
           | (refine z_isb .eql ?_; first
           | refine o_eq rfl rfl (by decide) ?_)
           | (refine z_isb .lss ?_; first
           | refine o_lt rfl rfl (by decide) ?_))
           | (refine z_isload ?_; first
           | (refine z_ld1 tabOk rfl rfl ?_; first
           | refine o_loads tabOk (by first | exact own_rds 0 rfl | exact own_rds 1 rfl | exact own_rds 2 rfl | exact own_rds 3 rfl | assumption) rfl rfl rfl (by first | exact (by rw [ilS_at (by omega), hf]) | exact (by rw [ilS_at1 (by omega), ht]) | exact rc_last hon | exact rcs_f _ | exact rcs_t _ | rfl | rfl) (by decide) ?_)
           | (refine z_ldw tabOk rfl rfl ?_; first
           | (refine o_loadwm tabOk rfl rfl rfl (by repeat' (first | exact List.mem_cons_self | apply List.mem_cons_of_mem)) (by first | rfl | exact rcs_len _ | (simp only [rcs_len]; done) | rfl) (by decide) ?_)))
           | (refine z_iscall ?_; first
           | ((refine z_iscallf 21 ?_; refine z_isdst 60 ?_; refine o_callr rfl Try.func21 rfl rfl rfl (has_c a (-1) ha.s _ _ _ _ (by (repeat (first | exact hrdA | apply Rds.cons)); done) (by omega)) (by decide) ?_))
           | ((refine z_iscallf 21 ?_; refine z_isdst 63 ?_; refine o_callr rfl Try.func21 rfl rfl rfl (has_c b (-1) hb.s _ _ _ _ (by (repeat (first | exact hrdB | apply Rds.cons)); done) (by omega)) (by decide) ?_)))
           | (refine z_ispick ?_; first
           | (refine o_pick0 rfl (by first | with_reducible rfl | with_reducible assumption | ((with_reducible refine decide_eq_false ?_); first | with_reducible assumption | omega)) rfl (by decide) ?_))
           | (refine z_isix ?_; first
           | refine o_indexs1 tabOk (by first | exact hneC (by omega) | exact hneD (by omega) | assumption) rfl rfl rfl rfl (by omega) (by omega) (by decide) ?_)
           | (refine z_isbi ?_; first
           | refine o_len tabOk rfl rfl (by decide) ?_)
           | refine o_move rfl (by decide) ?_
           | refine o_assign rfl (by decide) ?_
           | refine o_not rfl (by decide) ?_))
      · have hn : mg a b keep (cu a b) (i + 1) = push O f t := by rw [mg_yes (by rw [hf, ht]; exact hc), hO, hf, ht]
        have hft : f ≠ t := fun e => hc (.inl e)
        have hkk : keep (hasB a f) (hasB b f) = true := by
          cases hx : keep (hasB a f) (hasB b f) with
          | true => rfl
          | false => exact absurd (.inr hx) hc
        have hkk' : (!keep (hasB a f) (hasB b f)) = false := by rw [hkk]; rfl
        by_cases hon : O ≠ []
        · have hol := last_nn hon
          by_cases hla2 : lastTo (-1) O = f
          · obtain ⟨hp1, hp2⟩ := rc_push hon hla2 t
            repeat' (first
             | ((refine z_isdst 77 ?_; refine o_indexsn tabOk (by first | exact hneC (by omega) | exact hneD (by omega) | assumption) rfl rfl rfl rfl (by omega) (by omega) (by decide) ?_))
             | ((refine z_isdst 87 ?_; refine o_indexsn tabOk (by first | exact hneC (by omega) | exact hneD (by omega) | assumption) rfl rfl rfl rfl (by omega) (by omega) (by decide) ?_))
             | ((refine z_isfv ?_; refine o_callrf rfl rfl hkf hkb hkn rfl ((hkp _ _).frame _) (by decide) ?_))
             | (refine s_is ?_; first
             | (refine s_isagain ?_; first
             | (exact c_again (D, d, i + 1) (by dsimp only; omega) (by dsimp only; omega) ⟨rfl, rfl, rfl, rfl, rfl, rfl, rfl, trivial⟩ (fun w h => by dsimp only; rw [hn, ← hp1, hp2]; exact h)))
             | (refine s_isw ?_; first
             | refine c_seq ?_
             | refine c_block ?_
             | refine c_region ?_
             | refine c_mixed mixed (by kernel_rfl) ?_
             | refine c_skip ?_
             | refine c_exit ?_
             | (refine s_iscond ?_; first
             | (refine c_true rfl (by first | with_reducible rfl | with_reducible assumption | ((with_reducible refine decide_eq_true ?_); first | with_reducible rfl | with_reducible assumption | omega)) ?_)
             | (refine c_false rfl (by first | with_reducible rfl | with_reducible assumption | ((with_reducible refine decide_eq_false ?_); first | with_reducible assumption | omega)) ?_))))
             | (refine z_isg1 ?_; first
             | (refine z_want1 rfl rfl (by first | with_reducible rfl | with_reducible assumption | ((with_reducible refine decide_eq_true ?_); first | with_reducible rfl | with_reducible assumption | omega)) ?_))
             | (refine z_isg0 ?_; first
             | (refine z_want0 rfl rfl (by first | with_reducible rfl | with_reducible assumption | ((with_reducible refine decide_eq_false ?_); first | with_reducible assumption | omega)) ?_))
             | (refine z_isnil ?_; first
             | refine z_list ?_
             | refine z_mixed ?_)
             | (refine z_isop ?_; first
             | refine o_fields (by first | exact hneC (by omega) | exact hneD (by omega) | assumption) tabOk rfl rfl rfl rfl rfl (by decide) ?_
             | (refine z_isbin ?_; first
             | (refine z_isb .add ?_; first
             | refine o_add rfl rfl (by omega) (by omega) (by decide) ?_)
             | (refine z_isb .sub ?_; first
             | refine o_sub rfl rfl (by omega) (by omega) (by decide) ?_)
             | (refine z_isb .eql ?_; first
             | refine o_eq rfl rfl (by decide) ?_)
             | (refine z_isb .lss ?_; first
             | refine o_lt rfl rfl (by decide) ?_)
             | (refine z_isb .geq ?_; first
             | refine o_ge rfl rfl (by decide) ?_))
             | (refine z_isload ?_; first
             | (refine z_ld1 tabOk rfl rfl ?_; first
             | refine o_loadm tabOk rfl rfl rfl (by repeat' (first | exact List.mem_cons_self | apply List.mem_cons_of_mem)) (by first | exact (by rw [ilS_at (by omega), hf]) | exact (by rw [ilS_at1 (by omega), ht]) | exact rc_last hon | exact rcs_f _ | exact rcs_t _ | rfl | rfl) (by decide) ?_
             | refine o_loads tabOk (by first | exact own_rds 0 rfl | exact own_rds 1 rfl | exact own_rds 2 rfl | exact own_rds 3 rfl | assumption) rfl rfl rfl (by first | exact (by rw [ilS_at (by omega), hf]) | exact (by rw [ilS_at1 (by omega), ht]) | exact rc_last hon | exact rcs_f _ | exact rcs_t _ | rfl | rfl) (by decide) ?_)
             | (refine z_ldw tabOk rfl rfl ?_; first
             | (refine o_loadwm tabOk rfl rfl rfl (by repeat' (first | exact List.mem_cons_self | apply List.mem_cons_of_mem)) (by first | rfl | exact rcs_len _ | (simp only [rcs_len]; done) | rfl) (by decide) ?_)))
             | (refine z_isstore ?_; first
             | (refine o_stores rfl 1 tabOk rfl rfl rfl rfl rfl rfl (by rw [rc_len]; show ((O.length : Int) - 1).toNat * 2 + 1 < _; omega) ?_))
             | (refine z_iscall ?_; first
             | ((refine z_iscallf 21 ?_; refine z_isdst 60 ?_; refine o_callr rfl Try.func21 rfl rfl rfl (has_c a (-1) ha.s _ _ _ _ (by (repeat (first | exact hrdA | apply Rds.cons)); done) (by omega)) (by decide) ?_))
             | ((refine z_iscallf 21 ?_; refine z_isdst 63 ?_; refine o_callr rfl Try.func21 rfl rfl rfl (has_c b (-1) hb.s _ _ _ _ (by (repeat (first | exact hrdB | apply Rds.cons)); done) (by omega)) (by decide) ?_)))
             | (refine z_ispick ?_; first
             | (refine o_pick1 rfl (by first | with_reducible rfl | with_reducible assumption | ((with_reducible refine decide_eq_true ?_); first | with_reducible rfl | with_reducible assumption | omega)) rfl (by decide) ?_)
             | (refine o_pick0 rfl (by first | with_reducible rfl | with_reducible assumption | ((with_reducible refine decide_eq_false ?_); first | with_reducible assumption | omega)) rfl (by decide) ?_))
             | (refine z_isix ?_; first
             | refine o_indexs1 tabOk (by first | exact hneC (by omega) | exact hneD (by omega) | assumption) rfl rfl rfl rfl (by omega) (by omega) (by decide) ?_)
             | (refine z_isbi ?_; first
             | refine o_len tabOk rfl rfl (by decide) ?_)
             | refine o_move rfl (by decide) ?_
             | refine o_assign rfl (by decide) ?_
             | refine o_not rfl (by decide) ?_
             | refine o_field0 tabOk rfl rfl rfl rfl rfl (by decide) ?_))
          · have hpn : ¬ (lastTo (-1) O = f ∧ O ≠ []) := fun e => hla2 e.1
            repeat' (first
             | ((refine z_isdst 77 ?_; refine o_indexsn tabOk (by first | exact hneC (by omega) | exact hneD (by omega) | assumption) rfl rfl rfl rfl (by omega) (by omega) (by decide) ?_))
             | ((refine z_isfv ?_; refine o_callrf rfl rfl hkf hkb hkn rfl ((hkp _ _).frame _) (by decide) ?_))
             | (refine s_is ?_; first
             | (refine s_isagain ?_; first
             | (exact c_again (A', c', i + 1) (by dsimp only; omega) (by dsimp only; omega) ⟨rfl, rfl, rfl, rfl, rfl, rfl, rfl, trivial⟩ (fun w h => by dsimp only; rw [hn, push_new hpn, rc_add, rcs_mk, List.length_append]; exact ((h.sel 7 [2, 0, 3, 4, 5, 6, 1] (by decide)).mask [true, true, true, true, true, true, false]))))
             | (refine s_isw ?_; first
             | refine c_seq ?_
             | refine c_block ?_
             | refine c_region ?_
             | refine c_mixed mixed (by kernel_rfl) ?_
             | refine c_skip ?_
             | (refine s_iscond ?_; first
             | (refine c_true rfl (by first | with_reducible rfl | with_reducible assumption | ((with_reducible refine decide_eq_true ?_); first | with_reducible rfl | with_reducible assumption | omega)) ?_)
             | (refine c_false rfl (by first | with_reducible rfl | with_reducible assumption | ((with_reducible refine decide_eq_false ?_); first | with_reducible assumption | omega)) ?_))))
             | (refine z_isg1 ?_; first
             | (refine z_want1 rfl rfl (by first | with_reducible rfl | with_reducible assumption | ((with_reducible refine decide_eq_true ?_); first | with_reducible rfl | with_reducible assumption | omega)) ?_))
             | (refine z_isg0 ?_; first
             | (refine z_want0 rfl rfl (by first | with_reducible rfl | with_reducible assumption | ((with_reducible refine decide_eq_false ?_); first | with_reducible assumption | omega)) ?_))
             | (refine z_isnil ?_; first
             | refine z_list ?_
             | refine z_mixed ?_)
             | (refine z_isop ?_; first
             | (refine o_buildf (t := 75) (zs := [.int .i64 0, .int .i64 0]) (vs := [.int .i64 f, .int .i64 t]) tabOk rfl rfl (by kernel_rfl) rfl ⟨_, _, rfl, rfl, Nat.le_of_ble_eq_true rfl, _, _, rfl, rfl, Nat.le_of_ble_eq_true rfl, rfl⟩ (by decide) ?_)
             | refine o_makew (vs := [.int .i64 f, .int .i64 t]) rfl tabOk zeroOk rfl rfl rfl rfl rfl rfl rfl (by decide) fun gn => ?_
             | refine o_fields (by first | exact hneC (by omega) | exact hneD (by omega) | assumption) tabOk rfl rfl rfl rfl rfl (by decide) ?_
             | (refine z_isbin ?_; first
             | (refine z_isb .add ?_; first
             | refine o_add rfl rfl (by omega) (by omega) (by decide) ?_)
             | (refine z_isb .sub ?_; first
             | refine o_sub rfl rfl (by omega) (by omega) (by decide) ?_)
             | (refine z_isb .eql ?_; first
             | refine o_eq rfl rfl (by decide) ?_)
             | (refine z_isb .lss ?_; first
             | refine o_lt rfl rfl (by decide) ?_)
             | (refine z_isb .geq ?_; first
             | refine o_ge rfl rfl (by decide) ?_))
             | (refine z_isload ?_; first
             | (refine z_ld1 tabOk rfl rfl ?_; first
             | refine o_loadm tabOk rfl rfl rfl (by repeat' (first | exact List.mem_cons_self | apply List.mem_cons_of_mem)) (by first | exact (by rw [ilS_at (by omega), hf]) | exact (by rw [ilS_at1 (by omega), ht]) | exact rc_last hon | exact rcs_f _ | exact rcs_t _ | rfl | rfl) (by decide) ?_
             | refine o_loads tabOk (by first | exact own_rds 0 rfl | exact own_rds 1 rfl | exact own_rds 2 rfl | exact own_rds 3 rfl | assumption) rfl rfl rfl (by first | exact (by rw [ilS_at (by omega), hf]) | exact (by rw [ilS_at1 (by omega), ht]) | exact rc_last hon | exact rcs_f _ | exact rcs_t _ | rfl | rfl) (by decide) ?_)
             | (refine z_ldw tabOk rfl rfl ?_; first
             | (refine o_loadwm tabOk rfl rfl rfl (by repeat' (first | exact List.mem_cons_self | apply List.mem_cons_of_mem)) (by first | rfl | exact rcs_len _ | (simp only [rcs_len]; done) | rfl) (by decide) ?_)))
             | (refine z_isstore ?_; first
             | (refine z_st1 rfl rfl ?_; first
             | ((refine z_sti 2 rfl rfl ?_; refine o_store2 rfl tabOk rfl rfl rfl rfl rfl (by first | exact (by rw [ilS_at (by omega), hf]) | exact (by rw [ilS_at1 (by omega), ht]) | exact rc_last hon | exact rcs_f _ | exact rcs_t _ | rfl | rfl) (by first | rfl) ?_))))
             | (refine z_iscall ?_; first
             | ((refine z_iscallf 21 ?_; refine z_isdst 60 ?_; refine o_callr rfl Try.func21 rfl rfl rfl (has_c a (-1) ha.s _ _ _ _ (by (repeat (first | exact hrdA | apply Rds.cons)); done) (by omega)) (by decide) ?_))
             | ((refine z_iscallf 21 ?_; refine z_isdst 63 ?_; refine o_callr rfl Try.func21 rfl rfl rfl (has_c b (-1) hb.s _ _ _ _ (by (repeat (first | exact hrdB | apply Rds.cons)); done) (by omega)) (by decide) ?_)))
             | (refine z_ispick ?_; first
             | (refine o_pick1 rfl (by first | with_reducible rfl | with_reducible assumption | ((with_reducible refine decide_eq_true ?_); first | with_reducible rfl | with_reducible assumption | omega)) rfl (by decide) ?_)
             | (refine o_pick0 rfl (by first | with_reducible rfl | with_reducible assumption | ((with_reducible refine decide_eq_false ?_); first | with_reducible assumption | omega)) rfl (by decide) ?_))
             | (refine z_isix ?_; first
             | refine o_indexs1 tabOk (by first | exact hneC (by omega) | exact hneD (by omega) | assumption) rfl rfl rfl rfl (by omega) (by omega) (by decide) ?_)
             | (refine z_isbi ?_; first
             | refine o_len tabOk rfl rfl (by decide) ?_
             | (refine z_front rfl 2 rfl ?_; refine o_append rfl tabOk zeroOk rfl rfl rfl rfl rfl rfl (by first | exact own_rds 0 rfl | exact own_rds 1 rfl | exact own_rds 2 rfl | exact own_rds 3 rfl | assumption) (by first | rfl | rfl | (simp; done)) (by first | rfl | rfl | (simp; done)) (by omega) (by omega) (by decide) fun A' c' => ?_))
             | refine o_move rfl (by decide) ?_
             | refine o_assign rfl (by decide) ?_
             | refine o_not rfl (by decide) ?_
             | refine o_field0 tabOk rfl rfl rfl rfl rfl (by decide) ?_))
        · have hpn : ¬ (lastTo (-1) O = f ∧ O ≠ []) := fun e => hon e.2
          have hol : O.length = 0 := by
            cases O with
            | nil => rfl
            | cons r O => exact absurd (by simp) hon
          repeat' (first
           | ((refine z_isfv ?_; refine o_callrf rfl rfl hkf hkb hkn rfl ((hkp _ _).frame _) (by decide) ?_))
           | (refine s_is ?_; first
           | (refine s_isagain ?_; first
           | (exact c_again (A', c', i + 1) (by dsimp only; omega) (by dsimp only; omega) ⟨rfl, rfl, rfl, rfl, rfl, rfl, rfl, trivial⟩ (fun w h => by dsimp only; rw [hn, push_new hpn, rc_add, rcs_mk, List.length_append]; exact ((h.sel 7 [2, 0, 3, 4, 5, 6, 1] (by decide)).mask [true, true, true, true, true, true, false]))))
           | (refine s_isw ?_; first
           | refine c_seq ?_
           | refine c_block ?_
           | refine c_region ?_
           | refine c_mixed mixed (by kernel_rfl) ?_
           | refine c_skip ?_
           | (refine s_iscond ?_; first
           | (refine c_true rfl (by first | with_reducible rfl | with_reducible assumption | ((with_reducible refine decide_eq_true ?_); first | with_reducible rfl | with_reducible assumption | omega)) ?_)
           | (refine c_false rfl (by first | with_reducible rfl | with_reducible assumption | ((with_reducible refine decide_eq_false ?_); first | with_reducible assumption | omega)) ?_))))
           | (refine z_isg1 ?_; first
           | (refine z_skip1 (by decide) rfl rfl (by first | with_reducible rfl | with_reducible assumption | ((with_reducible refine decide_eq_false ?_); first | with_reducible assumption | omega)) ?_))
           | (refine z_isg0 ?_; first
           | (refine z_want0 rfl rfl (by first | with_reducible rfl | with_reducible assumption | ((with_reducible refine decide_eq_false ?_); first | with_reducible assumption | omega)) ?_))
           | (refine z_isnil ?_; first
           | refine z_list ?_
           | refine z_mixed ?_)
           | (refine z_isop ?_; first
           | (refine o_buildf (t := 75) (zs := [.int .i64 0, .int .i64 0]) (vs := [.int .i64 f, .int .i64 t]) tabOk rfl rfl (by kernel_rfl) rfl ⟨_, _, rfl, rfl, Nat.le_of_ble_eq_true rfl, _, _, rfl, rfl, Nat.le_of_ble_eq_true rfl, rfl⟩ (by decide) ?_)
           | refine o_makew (vs := [.int .i64 f, .int .i64 t]) rfl tabOk zeroOk rfl rfl rfl rfl rfl rfl rfl (by decide) fun gn => ?_
           | (refine z_isbin ?_; first
           | (refine z_isb .add ?_; first
           | refine o_add rfl rfl (by omega) (by omega) (by decide) ?_)
           | (refine z_isb .sub ?_; first
           | refine o_sub rfl rfl (by omega) (by omega) (by decide) ?_)
           | (refine z_isb .eql ?_; first
           | refine o_eq rfl rfl (by decide) ?_)
           | (refine z_isb .lss ?_; first
           | refine o_lt rfl rfl (by decide) ?_)
           | (refine z_isb .geq ?_; first
           | refine o_ge rfl rfl (by decide) ?_))
           | (refine z_isload ?_; first
           | (refine z_ld1 tabOk rfl rfl ?_; first
           | refine o_loadm tabOk rfl rfl rfl (by repeat' (first | exact List.mem_cons_self | apply List.mem_cons_of_mem)) (by first | exact (by rw [ilS_at (by omega), hf]) | exact (by rw [ilS_at1 (by omega), ht]) | exact rc_last hon | exact rcs_f _ | exact rcs_t _ | rfl | rfl) (by decide) ?_
           | refine o_loads tabOk (by first | exact own_rds 0 rfl | exact own_rds 1 rfl | exact own_rds 2 rfl | exact own_rds 3 rfl | assumption) rfl rfl rfl (by first | exact (by rw [ilS_at (by omega), hf]) | exact (by rw [ilS_at1 (by omega), ht]) | exact rc_last hon | exact rcs_f _ | exact rcs_t _ | rfl | rfl) (by decide) ?_)
           | (refine z_ldw tabOk rfl rfl ?_; first
           | (refine o_loadwm tabOk rfl rfl rfl (by repeat' (first | exact List.mem_cons_self | apply List.mem_cons_of_mem)) (by first | rfl | exact rcs_len _ | (simp only [rcs_len]; done) | rfl) (by decide) ?_)))
           | (refine z_isstore ?_; first
           | (refine z_st1 rfl rfl ?_; first
           | ((refine z_sti 2 rfl rfl ?_; refine o_store2 rfl tabOk rfl rfl rfl rfl rfl (by first | exact (by rw [ilS_at (by omega), hf]) | exact (by rw [ilS_at1 (by omega), ht]) | exact rc_last hon | exact rcs_f _ | exact rcs_t _ | rfl | rfl) (by first | rfl) ?_))))
           | (refine z_iscall ?_; first
           | ((refine z_iscallf 21 ?_; refine z_isdst 60 ?_; refine o_callr rfl Try.func21 rfl rfl rfl (has_c a (-1) ha.s _ _ _ _ (by (repeat (first | exact hrdA | apply Rds.cons)); done) (by omega)) (by decide) ?_))
           | ((refine z_iscallf 21 ?_; refine z_isdst 63 ?_; refine o_callr rfl Try.func21 rfl rfl rfl (has_c b (-1) hb.s _ _ _ _ (by (repeat (first | exact hrdB | apply Rds.cons)); done) (by omega)) (by decide) ?_)))
           | (refine z_ispick ?_; first
           | (refine o_pick0 rfl (by first | with_reducible rfl | with_reducible assumption | ((with_reducible refine decide_eq_false ?_); first | with_reducible assumption | omega)) rfl (by decide) ?_))
           | (refine z_isix ?_; first
           | refine o_indexs1 tabOk (by first | exact hneC (by omega) | exact hneD (by omega) | assumption) rfl rfl rfl rfl (by omega) (by omega) (by decide) ?_)
           | (refine z_isbi ?_; first
           | refine o_len tabOk rfl rfl (by decide) ?_
           | (refine z_front rfl 2 rfl ?_; refine o_append rfl tabOk zeroOk rfl rfl rfl rfl rfl rfl (by first | exact own_rds 0 rfl | exact own_rds 1 rfl | exact own_rds 2 rfl | exact own_rds 3 rfl | assumption) (by first | rfl | rfl | (simp; done)) (by first | rfl | rfl | (simp; done)) (by omega) (by omega) (by decide) fun A' c' => ?_))
           | refine o_move rfl (by decide) ?_
           | refine o_assign rfl (by decide) ?_
           | refine o_not rfl (by decide) ?_
           | refine o_field0 tabOk rfl rfl rfl rfl rfl (by decide) ?_))
    · obtain rfl : i = (cu a b).length - 1 := by omega
      repeat' (first
       | (refine s_is ?_; first
       | (refine s_isret ?_; first
       | (exact f_r1 rfl (res_c tabOk rfl rfl rfl 3 rfl rfl) (D, d) trivial (by rw [hend]) (fun w h => by rw [hend] at h; exact ((h.sel 6 [1, 0, 2, 3, 4, 5] (by decide)).mask [true, false, false, false, false, false]))))
       | (refine s_isw ?_; first
       | refine c_seq ?_
       | refine c_region ?_
       | refine c_ret ?_
       | refine c_exit ?_
       | (refine s_iscond ?_; first
       | (refine c_false rfl (by first | with_reducible rfl | with_reducible assumption | ((with_reducible refine decide_eq_false ?_); first | with_reducible assumption | omega)) ?_))))
       | (refine z_isnil ?_; first
       | refine z_list ?_)
       | (refine z_isop ?_; first
       | (refine z_isbin ?_; first
       | (refine z_isb .add ?_; first
       | refine o_add rfl rfl (by omega) (by omega) (by decide) ?_)
       | (refine z_isb .lss ?_; first
       | refine o_lt rfl rfl (by decide) ?_))
       | (refine z_isload ?_; first
       | (refine z_ldw tabOk rfl rfl ?_; first
       | (refine o_loadwm tabOk rfl rfl rfl (by repeat' (first | exact List.mem_cons_self | apply List.mem_cons_of_mem)) (by first | rfl | exact rcs_len _ | (simp only [rcs_len]; done) | rfl) (by decide) ?_)))
       | (refine z_isstore ?_; first
       | (refine z_stw rfl ?_; first
       | ((refine z_sti 3 rfl rfl ?_; refine o_storeb3 rfl tabOk rfl rfl rfl (by first | rfl | exact rcs_len _ | (simp only [rcs_len]; done) | rfl) (by first | rfl | exact rcs_one _ | exact rc_one _ | rfl) (by first | rfl | exact rcs_len _ | (simp only [rcs_len]; done) | rfl) ?_))))
       | (refine z_isbi ?_; first
       | refine o_len tabOk rfl rfl (by decide) ?_)
       | refine o_move rfl (by decide) ?_))
end Go.Proofs.Ytfegdehgnhomnaa
