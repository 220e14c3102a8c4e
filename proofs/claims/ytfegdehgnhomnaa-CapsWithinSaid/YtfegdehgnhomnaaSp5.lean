/-
Span: either, the one without the other, both; within; all numbers; the rows.
-/
import Derived.Test.YtfegdehgnhomnaaSp4
namespace Go.Proofs.Ytfegdehgnhomnaa
set_option linter.unusedVariables false
set_option linter.unusedSimpArgs false
open Eng
/-- So many numbers from f on. -/
def rg (f : Int) : Nat → List Int
  | 0 => []
  | m + 1 => rg f m ++ [f + m]
theorem rg_zero (f : Int) : rg f 0 = [] := rfl
theorem rg_succ (f : Int) (m : Nat) : rg f (m + 1) = rg f m ++ [f + (m : Int)] := rfl
theorem rg_len (f : Int) : ∀ m, (rg f m).length = m
  | 0 => rfl
  | m + 1 => by rw [rg_succ, List.length_append, rg_len f m]; rfl
/-- All numbers of the first k rows. -/
def nm (R : List Rw) : Nat → List Int
  | 0 => []
  | k + 1 => nm R k ++ rg (at' R k).1 ((at' R k).2 - (at' R k).1).toNat
theorem nm_zero (R : List Rw) : nm R 0 = [] := rfl
theorem nm_succ (R : List Rw) (k : Nat) : nm R (k + 1) = nm R k ++ rg (at' R k).1 ((at' R k).2 - (at' R k).1).toNat := rfl
theorem nm_len {R : List Rw} (h : Okr R) : ∀ k, k ≤ R.length → ((nm R k).length : Int) = lenN R k
  | 0, _ => rfl
  | k + 1, hk => by
    have h1 := nm_len h k (by omega)
    have h2 := h.row (k := k) (by omega)
    rw [nm_succ, List.length_append, rg_len, lenN_succ]
    omega
theorem nm_le {R : List Rw} (h : Okr R) (k : Nat) (hk : k ≤ R.length) : (nm R k).length ≤ 524288 := by
  have h1 := nm_len h k hk
  have h2 := lenN_le h k hk
  have h3 := h.len
  omega
theorem ilS_one (l : List Int) (x : Int) : ilS (l ++ [x]) = ilS l ++ [.int .i64 x] := by simp [ilS]
attribute [local irreducible] Eng.Hold Eng.Z Eng.S Eng.cells Eng.old Eng.own rc rcs at' hasB Sep lastTo push
attribute [local irreducible] cmpR lenN ofR en mg cu ilS rg nm
theorem with_c (a b R : List Rw) (ha : Okr a) (hb : Okr b) (hR : Okr R) (hm : ∀ j, hasB R j = (hasB a j || hasB b j)) (A B : Option Addr) (ca cb : Nat) (fr : List Chunk) (hrdA : Rds fr A (rc a)) (hrdB : Rds fr B (rc b)) :
    Does Try.prog 33 [.agg #[.slice A a.length ca], .agg #[.slice B b.length cb]] fr (fun _ : Option Addr × Nat => True) (fun x => .agg #[.slice x.1 R.length x.2]) (fun x => own x.1 x.2 75 2 R.length (rc R) :: fr) := by
  intro w hw
  refine f_enter Try.func33 rfl Try.ntmps33 rfl hw ?_
  repeat' (first
   | (refine s_is ?_; first
   | (refine s_isret ?_; first
   | exact f_r1 rfl (res_c tabOk rfl rfl rfl 1 rfl rfl) x trivial rfl (fun w h => ((h.sel 4 [0, 1, 2, 3] (by decide)).mask [true, false, false, false])))
   | (refine s_isw ?_; first
   | refine c_seq ?_
   | refine c_region ?_
   | refine c_ret ?_))
   | (refine z_isnil ?_; first
   | refine z_list ?_)
   | (refine z_isop ?_; first
   | refine o_boxa (vs := [.slice A a.length ca]) rfl rfl (by decide) fun g3 => ?_
   | refine o_boxa (vs := [.slice B b.length cb]) rfl rfl (by decide) fun g4 => ?_
   | refine o_alloca (e := 31) (vs := [.slice none 0 0]) rfl (by kernel_rfl) (by decide) fun g6 => ?_
   | (refine z_isload ?_; first
   | (refine z_ldw tabOk rfl rfl ?_; first
   | (refine o_loadwm tabOk rfl rfl rfl (by repeat' (first | exact List.mem_cons_self | apply List.mem_cons_of_mem)) (by first | rfl | exact rcs_len _ | (simp only [rcs_len]; done) | rfl) (by decide) ?_)))
   | (refine z_isstore ?_; first
   | (refine z_stw rfl ?_; first
   | ((refine z_sti 1 rfl rfl ?_; refine o_storeb1 rfl tabOk rfl rfl rfl (by first | rfl | exact rcs_len _ | (simp only [rcs_len]; done) | rfl) (by first | rfl | exact rcs_one _ | exact rc_one _ | rfl) (by first | rfl | exact rcs_len _ | (simp only [rcs_len]; done) | rfl) ?_))))
   | (refine z_iscall ?_; first
   | ((refine z_iscallf 45 ?_; refine o_calla Try.func45 rfl rfl rfl (merge_c a b R ha hb hR (fun x y => x || y) rfl hm 47 _ Try.func47 rfl rfl with1_p A B ca cb _ (hrdA.sub (List.sublist_append_right [_, _, _] _)) (hrdB.sub (List.sublist_append_right [_, _, _] _))) (by decide) fun x _ => ?_)))))
theorem without_c (a b R : List Rw) (ha : Okr a) (hb : Okr b) (hR : Okr R) (hm : ∀ j, hasB R j = (hasB a j && !hasB b j)) (A B : Option Addr) (ca cb : Nat) (fr : List Chunk) (hrdA : Rds fr A (rc a)) (hrdB : Rds fr B (rc b)) :
    Does Try.prog 32 [.agg #[.slice A a.length ca], .agg #[.slice B b.length cb]] fr (fun _ : Option Addr × Nat => True) (fun x => .agg #[.slice x.1 R.length x.2]) (fun x => own x.1 x.2 75 2 R.length (rc R) :: fr) := by
  intro w hw
  refine f_enter Try.func32 rfl Try.ntmps32 rfl hw ?_
  repeat' (first
   | (refine s_is ?_; first
   | (refine s_isret ?_; first
   | exact f_r1 rfl (res_c tabOk rfl rfl rfl 1 rfl rfl) x trivial rfl (fun w h => ((h.sel 4 [0, 1, 2, 3] (by decide)).mask [true, false, false, false])))
   | (refine s_isw ?_; first
   | refine c_seq ?_
   | refine c_region ?_
   | refine c_ret ?_))
   | (refine z_isnil ?_; first
   | refine z_list ?_)
   | (refine z_isop ?_; first
   | refine o_boxa (vs := [.slice A a.length ca]) rfl rfl (by decide) fun g3 => ?_
   | refine o_boxa (vs := [.slice B b.length cb]) rfl rfl (by decide) fun g4 => ?_
   | refine o_alloca (e := 31) (vs := [.slice none 0 0]) rfl (by kernel_rfl) (by decide) fun g6 => ?_
   | (refine z_isload ?_; first
   | (refine z_ldw tabOk rfl rfl ?_; first
   | (refine o_loadwm tabOk rfl rfl rfl (by repeat' (first | exact List.mem_cons_self | apply List.mem_cons_of_mem)) (by first | rfl | exact rcs_len _ | (simp only [rcs_len]; done) | rfl) (by decide) ?_)))
   | (refine z_isstore ?_; first
   | (refine z_stw rfl ?_; first
   | ((refine z_sti 1 rfl rfl ?_; refine o_storeb1 rfl tabOk rfl rfl rfl (by first | rfl | exact rcs_len _ | (simp only [rcs_len]; done) | rfl) (by first | rfl | exact rcs_one _ | exact rc_one _ | rfl) (by first | rfl | exact rcs_len _ | (simp only [rcs_len]; done) | rfl) ?_))))
   | (refine z_iscall ?_; first
   | ((refine z_iscallf 45 ?_; refine o_calla Try.func45 rfl rfl rfl (merge_c a b R ha hb hR (fun x y => x && !y) rfl hm 46 _ Try.func46 rfl rfl without1_p A B ca cb _ (hrdA.sub (List.sublist_append_right [_, _, _] _)) (hrdB.sub (List.sublist_append_right [_, _, _] _))) (by decide) fun x _ => ?_)))))
theorem both_c (a b R : List Rw) (ha : Okr a) (hb : Okr b) (hR : Okr R) (hm : ∀ j, hasB R j = (hasB a j && hasB b j)) (A B : Option Addr) (ca cb : Nat) (fr : List Chunk) (hrdA : Rds fr A (rc a)) (hrdB : Rds fr B (rc b)) :
    Does Try.prog 41 [.agg #[.slice A a.length ca], .agg #[.slice B b.length cb]] fr (fun _ : Option Addr × Nat => True) (fun x => .agg #[.slice x.1 R.length x.2]) (fun x => own x.1 x.2 75 2 R.length (rc R) :: fr) := by
  intro w hw
  refine f_enter Try.func41 rfl Try.ntmps41 rfl hw ?_
  repeat' (first
   | (refine s_is ?_; first
   | (refine s_isret ?_; first
   | exact f_r1 rfl (res_c tabOk rfl rfl rfl 1 rfl rfl) x trivial rfl (fun w h => ((h.sel 4 [0, 1, 2, 3] (by decide)).mask [true, false, false, false])))
   | (refine s_isw ?_; first
   | refine c_seq ?_
   | refine c_region ?_
   | refine c_ret ?_))
   | (refine z_isnil ?_; first
   | refine z_list ?_)
   | (refine z_isop ?_; first
   | refine o_boxa (vs := [.slice A a.length ca]) rfl rfl (by decide) fun g3 => ?_
   | refine o_boxa (vs := [.slice B b.length cb]) rfl rfl (by decide) fun g4 => ?_
   | refine o_alloca (e := 31) (vs := [.slice none 0 0]) rfl (by kernel_rfl) (by decide) fun g6 => ?_
   | (refine z_isload ?_; first
   | (refine z_ldw tabOk rfl rfl ?_; first
   | (refine o_loadwm tabOk rfl rfl rfl (by repeat' (first | exact List.mem_cons_self | apply List.mem_cons_of_mem)) (by first | rfl | exact rcs_len _ | (simp only [rcs_len]; done) | rfl) (by decide) ?_)))
   | (refine z_isstore ?_; first
   | (refine z_stw rfl ?_; first
   | ((refine z_sti 1 rfl rfl ?_; refine o_storeb1 rfl tabOk rfl rfl rfl (by first | rfl | exact rcs_len _ | (simp only [rcs_len]; done) | rfl) (by first | rfl | exact rcs_one _ | exact rc_one _ | rfl) (by first | rfl | exact rcs_len _ | (simp only [rcs_len]; done) | rfl) ?_))))
   | (refine z_iscall ?_; first
   | ((refine z_iscallf 45 ?_; refine o_calla Try.func45 rfl rfl rfl (merge_c a b R ha hb hR (fun x y => x && y) rfl hm 50 _ Try.func50 rfl rfl both1_p A B ca cb _ (hrdA.sub (List.sublist_append_right [_, _, _] _)) (hrdB.sub (List.sublist_append_right [_, _, _] _))) (by decide) fun x _ => ?_)))))
theorem within_c (a b R : List Rw) (ha : Okr a) (hb : Okr b) (hR : Okr R) (hm : ∀ j, hasB R j = (hasB a j && !hasB b j)) (A B : Option Addr) (ca cb : Nat) (fr : List Chunk) (hrdA : Rds fr A (rc a)) (hrdB : Rds fr B (rc b)) :
    Does Try.prog 14 [.agg #[.slice A a.length ca], .agg #[.slice B b.length cb]] fr (fun _ : Unit => True) (fun _ => .bool (decide (lenN R R.length = 0))) (fun _ => fr) := by
  intro w hw
  refine f_enter Try.func14 rfl Try.ntmps14 rfl hw ?_
  repeat' (first
   | (refine s_is ?_; first
   | (refine s_isret ?_; first
   | exact f_r1 rfl (res_t rfl) () trivial rfl (fun w h => ((h.sel 3 [0, 1, 2] (by decide)).mask [false, false, false])))
   | (refine s_isw ?_; first
   | refine c_seq ?_
   | refine c_region ?_
   | refine c_ret ?_))
   | (refine z_isnil ?_; first
   | refine z_list ?_)
   | (refine z_isop ?_; first
   | refine o_boxa (vs := [.slice A a.length ca]) rfl rfl (by decide) fun g3 => ?_
   | refine o_boxa (vs := [.slice B b.length cb]) rfl rfl (by decide) fun g4 => ?_
   | (refine z_isbin ?_; first
   | (refine z_isb .eql ?_; first
   | refine o_eq rfl rfl (by decide) ?_))
   | (refine z_isload ?_; first
   | (refine z_ldw tabOk rfl rfl ?_; first
   | (refine o_loadwm tabOk rfl rfl rfl (by repeat' (first | exact List.mem_cons_self | apply List.mem_cons_of_mem)) (by first | rfl | exact rcs_len _ | (simp only [rcs_len]; done) | rfl) (by decide) ?_)))
   | (refine z_iscall ?_; first
   | ((refine z_iscallf 32 ?_; refine o_calla Try.func32 rfl rfl rfl (without_c a b R ha hb hR hm A B ca cb _ (hrdA.sub (List.sublist_append_right [_, _] _)) (hrdB.sub (List.sublist_append_right [_, _] _))) (by decide) fun x _ => ?_))
   | ((refine z_iscallf 16 ?_; refine o_callr rfl Try.func16 rfl rfl rfl (slen_c R hR _ _ _ (own_rds 0 rfl)) (by decide) ?_)))
   | refine o_assign rfl (by decide) ?_))
theorem all_c (R : List Rw) (hR : Okr R) (A : Option Addr) (c : Nat) (fr : List Chunk) (hrd : Rds fr A (rc R)) : Does Try.prog 35 [.agg #[.slice A R.length c]] fr (fun _ : Option Addr × Nat => True) (fun x => .slice x.1 (nm R R.length).length x.2) (fun x => own x.1 x.2 3 1 (nm R R.length).length (ilS (nm R R.length)) :: fr) := by
  intro w hw
  have hne := rc_ne hrd hw
  have hx := hR.len
  refine f_enter Try.func35 rfl Try.ntmps35 rfl hw ?_
  repeat' (first
   | (refine s_is ?_; first
   | (refine s_isw ?_; first
   | (refine s_isloop ?_; first
   | ((refine c_loop (X := Option Addr × Nat × Nat) (fun y => y.2.2 ≤ R.length) (fun y => [(3, .slice y.1 (nm R y.2.2).length y.2.1), (8, .slice A R.length c), (9, .int .i64 R.length), (10, .int .i64 y.2.2)]) (fun y => own y.1 y.2.1 3 1 (nm R y.2.2).length (ilS (nm R y.2.2)) :: fr) (fun y => R.length - y.2.2) (none, 0, 0) (Nat.zero_le _) ⟨(by dsimp only; rw [nm_zero]; rfl), rfl, rfl, rfl, trivial⟩ (fun w h => by dsimp only; rw [nm_zero, ilS_nil]; exact ((h.sel 1 [0] (by decide)).mask [false]).nil 3 1) (fun y hk => ?_); obtain ⟨B, e, k⟩ := y; dsimp only at hk ⊢; refine hold ?_)))
   | refine c_seq ?_
   | refine c_block ?_
   | refine c_region ?_))
   | (refine z_isnil ?_; first
   | refine z_list ?_)
   | (refine z_isop ?_; first
   | refine o_boxa (vs := [.slice A R.length c]) rfl rfl (by decide) fun g => ?_
   | (refine z_isload ?_; first
   | (refine z_ld1 tabOk rfl rfl ?_; first
   | refine o_loadm tabOk rfl rfl rfl (by repeat' (first | exact List.mem_cons_self | apply List.mem_cons_of_mem)) (by first | exact rc_f _ (by omega) | exact rc_t _ (by omega) | exact rcs_f _ | exact rcs_t _ | rfl | rfl) (by decide) ?_))
   | (refine z_isbi ?_; first
   | refine o_len tabOk rfl rfl (by decide) ?_)
   | refine o_move rfl (by decide) ?_
   | refine o_assign rfl (by decide) ?_
   | refine o_field0 tabOk rfl rfl rfl rfl rfl (by decide) ?_))
  refine Hold.go ?_
  have hnl := nm_le hR k hk
  by_cases hl : k < R.length
  · have hrow := hR.row hl
    have hs := nm_succ R k
    repeat' (first
     | (refine s_is ?_; first
     | (refine s_isw ?_; first
     | (refine s_isloop ?_; first
     | ((refine c_loop (X := Option Addr × Nat × Nat) (fun y => y.2.2 ≤ ((at' R k).2 - (at' R k).1).toNat) (fun y => [(3, .slice y.1 (nm R k ++ rg (at' R k).1 y.2.2).length y.2.1), (5, .pointer (some ⟨g2, 0, none⟩)), (6, .int .i64 ((at' R k).1 + (y.2.2 : Int))), (8, .slice A R.length c), (9, .int .i64 R.length), (10, .int .i64 k)]) (fun y => own y.1 y.2.1 3 1 (nm R k ++ rg (at' R k).1 y.2.2).length (ilS (nm R k ++ rg (at' R k).1 y.2.2)) :: cells g2 75 (rcs (at' R k)) :: fr) (fun y => 1024 - y.2.2) (B, e, 0) (Nat.zero_le _) ⟨(by dsimp only; rw [rg_zero, List.append_nil]; rfl), rfl, (by dsimp only; exact congrArg some (congrArg (Value.int .i64) (Int.add_zero _).symm)), rfl, rfl, rfl, trivial⟩ (fun w h => by dsimp only; rw [rg_zero, List.append_nil]; exact ((h.sel 2 [1, 0] (by decide)).mask [true, true])) (fun y hm => ?_); obtain ⟨B', e', m⟩ := y; dsimp only at hm ⊢; refine hold ?_)))
     | refine c_seq ?_
     | refine c_block ?_
     | refine c_region ?_
     | refine c_skip ?_
     | (refine s_iscond ?_; first
     | (refine c_true rfl (by first | with_reducible rfl | with_reducible assumption | ((with_reducible refine decide_eq_true ?_); first | with_reducible rfl | with_reducible assumption | omega)) ?_))))
     | (refine z_isnil ?_; first
     | refine z_list ?_)
     | (refine z_isop ?_; first
     | refine o_indexsn tabOk (hne (by omega)) rfl rfl rfl rfl (by omega) (by omega) (by decide) ?_
     | refine o_alloca (e := 75) (vs := rcs (0, 0)) rfl (by kernel_rfl) (by decide) fun g2 => ?_
     | (refine z_isbin ?_; first
     | (refine z_isb .lss ?_; first
     | refine o_lt rfl rfl (by decide) ?_))
     | (refine z_isload ?_; first
     | (refine o_loadsw tabOk (Rds.cons _ hrd) rfl rfl rfl (es := rcs (at' R k)) (rcs_len _) (by rw [rcs_len]; decide) (fun j u hu => by rw [Int.toNat_natCast]; exact rc_el R (by omega) j u hu) (by decide) ?_)
     | (refine z_ld1 tabOk rfl rfl ?_; first
     | refine o_loadm tabOk rfl rfl rfl (by repeat' (first | exact List.mem_cons_self | apply List.mem_cons_of_mem)) (by first | exact rc_f _ (by omega) | exact rc_t _ (by omega) | exact rcs_f _ | exact rcs_t _ | rfl | rfl) (by decide) ?_))
     | (refine z_isstore ?_; first
     | (refine z_stw rfl ?_; first
     | ((refine z_sti 0 rfl rfl ?_; refine o_storeb0 rfl tabOk rfl rfl rfl (by first | rfl | exact rcs_len _ | (simp only [rcs_len]; done) | rfl) (by first | rfl | exact rcs_one _ | exact rc_one _ | rfl) (by first | rfl | exact rcs_len _ | (simp only [rcs_len]; done) | rfl) ?_))))
     | refine o_assign rfl (by decide) ?_
     | refine o_field0 tabOk rfl rfl rfl rfl rfl (by decide) ?_))
    refine Hold.go ?_
    have hgl : (nm R k ++ rg (at' R k).1 m).length = (nm R k).length + m := by rw [List.length_append, rg_len]
    by_cases hml : m < ((at' R k).2 - (at' R k).1).toNat
    · have hg1 : (nm R k ++ rg (at' R k).1 (m + 1)).length = (nm R k ++ rg (at' R k).1 m).length + 1 := by rw [rg_succ, ← List.append_assoc, List.length_append]; rfl
      have hg2 : ilS (nm R k ++ rg (at' R k).1 (m + 1)) = ilS (nm R k ++ rg (at' R k).1 m) ++ [.int .i64 ((at' R k).1 + (m : Int))] := by rw [rg_succ, ← List.append_assoc, ilS_one]
      repeat' (first
       | (refine s_is ?_; first
       | (refine s_isagain ?_; first
       | (exact c_again (A', c', m + 1) (by dsimp only; omega) (by dsimp only; omega) ⟨(by dsimp only; rw [hg1]; rfl), rfl, (by dsimp only; exact congrArg some (congrArg (Value.int .i64) (by omega))), rfl, rfl, rfl, trivial⟩ (fun w h => by dsimp only; rw [hg1, hg2]; exact ((h.sel 3 [0, 2, 1] (by decide)).mask [true, true, false]))))
       | (refine s_isw ?_; first
       | refine c_seq ?_
       | refine c_block ?_
       | refine c_region ?_
       | refine c_skip ?_
       | (refine s_iscond ?_; first
       | (refine c_true rfl (by first | with_reducible rfl | with_reducible assumption | ((with_reducible refine decide_eq_true ?_); first | with_reducible rfl | with_reducible assumption | omega)) ?_))))
       | (refine z_isnil ?_; first
       | refine z_list ?_)
       | (refine z_isop ?_; first
       | (refine z_isbin ?_; first
       | (refine z_isb .add ?_; first
       | refine o_add rfl rfl (by omega) (by omega) (by decide) ?_)
       | (refine z_isb .lss ?_; first
       | refine o_lt rfl rfl (by decide) ?_))
       | (refine z_isload ?_; first
       | (refine z_ld1 tabOk rfl rfl ?_; first
       | refine o_loadm tabOk rfl rfl rfl (by repeat' (first | exact List.mem_cons_self | apply List.mem_cons_of_mem)) (by first | exact rc_f _ (by omega) | exact rc_t _ (by omega) | exact rcs_f _ | exact rcs_t _ | rfl | rfl) (by decide) ?_))
       | (refine z_ismakes ?_; first
       | refine o_make1 rfl tabOk zeroOk rfl rfl rfl rfl rfl (by decide) fun g => ?_)
       | (refine z_isbi ?_; first
       | (refine z_front rfl 1 rfl ?_; refine o_append rfl tabOk zeroOk rfl rfl rfl rfl rfl rfl (by first | exact hrd | exact Rds.cons _ hrd | exact own_rds 0 rfl | exact own_rds 1 rfl | exact own_rds 2 rfl | exact own_rds 3 rfl | assumption) (by first | rfl | rfl | (simp; done)) (by first | rfl | rfl | (simp; done)) (by omega) (by omega) (by decide) fun A' c' => ?_))
       | refine o_move rfl (by decide) ?_
       | refine o_assign rfl (by decide) ?_
       | refine o_field0 tabOk rfl rfl rfl rfl rfl (by decide) ?_))
    · obtain rfl : m = ((at' R k).2 - (at' R k).1).toNat := by omega
      repeat' (first
       | (refine s_is ?_; first
       | (refine s_isagain ?_; first
       | (exact c_again (B', e', k + 1) (by dsimp only; omega) (by dsimp only; omega) ⟨(by dsimp only; rw [hs]; rfl), rfl, rfl, rfl, trivial⟩ (fun w h => by dsimp only; rw [hs]; exact ((h.sel 2 [0, 1] (by decide)).mask [true, false]))))
       | (refine s_isw ?_; first
       | refine c_seq ?_
       | refine c_region ?_
       | refine c_exit ?_
       | (refine s_iscond ?_; first
       | (refine c_false rfl (by first | with_reducible rfl | with_reducible assumption | ((with_reducible refine decide_eq_false ?_); first | with_reducible assumption | omega)) ?_))))
       | (refine z_isnil ?_; first
       | refine z_list ?_)
       | (refine z_isop ?_; first
       | (refine z_isbin ?_; first
       | (refine z_isb .add ?_; first
       | refine o_add rfl rfl (by omega) (by omega) (by decide) ?_)
       | (refine z_isb .lss ?_; first
       | refine o_lt rfl rfl (by decide) ?_))
       | (refine z_isload ?_; first
       | (refine z_ld1 tabOk rfl rfl ?_; first
       | refine o_loadm tabOk rfl rfl rfl (by repeat' (first | exact List.mem_cons_self | apply List.mem_cons_of_mem)) (by first | exact rc_f _ (by omega) | exact rc_t _ (by omega) | exact rcs_f _ | exact rcs_t _ | rfl | rfl) (by decide) ?_))
       | refine o_move rfl (by decide) ?_
       | refine o_field0 tabOk rfl rfl rfl rfl rfl (by decide) ?_))
  · obtain rfl : k = R.length := by omega
    repeat' (first
     | (refine s_is ?_; first
     | (refine s_isret ?_; first
     | exact f_r1 rfl (res_t rfl) (B, e) trivial rfl (fun w h => h))
     | (refine s_isw ?_; first
     | refine c_seq ?_
     | refine c_region ?_
     | refine c_ret ?_
     | refine c_exit ?_
     | (refine s_iscond ?_; first
     | (refine c_false rfl (by first | with_reducible rfl | with_reducible assumption | ((with_reducible refine decide_eq_false ?_); first | with_reducible assumption | omega)) ?_))))
     | (refine z_isnil ?_; first
     | refine z_list ?_)
     | (refine z_isop ?_; first
     | (refine z_isbin ?_; first
     | (refine z_isb .lss ?_; first
     | refine o_lt rfl rfl (by decide) ?_))
     | refine o_move rfl (by decide) ?_
     | refine o_assign rfl (by decide) ?_))
theorem rows_c (R : List Rw) (hR : Okr R) (A : Option Addr) (c : Nat) (fr : List Chunk) (hrd : Rds fr A (rc R)) : Does Try.prog 48 [.agg #[.slice A R.length c]] fr (fun _ : Option Addr × Nat => True) (fun x => .slice x.1 R.length x.2) (fun x => own x.1 x.2 102 2 R.length (rc R) :: fr) := by
  intro w hw
  have hne := rc_ne hrd hw
  have hx := hR.len
  refine f_enter Try.func48 rfl Try.ntmps48 rfl hw ?_
  repeat' (first
   | (refine s_is ?_; first
   | (refine s_isw ?_; first
   | (refine s_isloop ?_; first
   | ((refine c_loop (X := Option Addr × Nat × Nat) (fun y => y.2.2 ≤ R.length) (fun y => [(3, .slice y.1 y.2.2 y.2.1), (7, .slice A R.length c), (8, .int .i64 R.length), (9, .int .i64 y.2.2)]) (fun y => own y.1 y.2.1 102 2 y.2.2 (rc (R.take y.2.2)) :: fr) (fun y => R.length - y.2.2) (none, 0, 0) (Nat.zero_le _) ⟨rfl, rfl, rfl, rfl, trivial⟩ (fun w h => by dsimp only; rw [List.take_zero, rc_nil]; exact ((h.sel 1 [0] (by decide)).mask [false]).nil 102 2) (fun y hk => ?_); obtain ⟨B, e, k⟩ := y; dsimp only at hk ⊢; refine hold ?_)))
   | refine c_seq ?_
   | refine c_block ?_
   | refine c_region ?_))
   | (refine z_isnil ?_; first
   | refine z_list ?_)
   | (refine z_isop ?_; first
   | refine o_boxa (vs := [.slice A R.length c]) rfl rfl (by decide) fun g => ?_
   | (refine z_isload ?_; first
   | (refine z_ld1 tabOk rfl rfl ?_; first
   | refine o_loadm tabOk rfl rfl rfl (by repeat' (first | exact List.mem_cons_self | apply List.mem_cons_of_mem)) (by first | exact rc_f _ (by omega) | exact rc_t _ (by omega) | exact rcs_f _ | exact rcs_t _ | rfl | rfl) (by decide) ?_))
   | (refine z_isbi ?_; first
   | refine o_len tabOk rfl rfl (by decide) ?_)
   | refine o_move rfl (by decide) ?_
   | refine o_assign rfl (by decide) ?_
   | refine o_field0 tabOk rfl rfl rfl rfl rfl (by decide) ?_))
  refine Hold.go ?_
  by_cases hl : k < R.length
  · have hs : rc (R.take (k + 1)) = rc (R.take k) ++ [.int .i64 (at' R k).1, .int .i64 (at' R k).2] := by
      rw [List.take_add_one, at_get hl, Option.toList_some, rc_add, rcs_mk]
    repeat' (first
     | ((refine z_isdst 18 ?_; refine o_build (v := .agg #[.int .i64 (at' R k).1, .int .i64 (at' R k).2]) rfl (fun _ => by kernel_rfl) (by decide) ?_))
     | (refine s_is ?_; first
     | (refine s_isagain ?_; first
     | (exact c_again (A', c', k + 1) (by dsimp only; omega) (by dsimp only; omega) ⟨rfl, rfl, rfl, rfl, trivial⟩ (fun w h => by dsimp only; rw [hs]; exact ((h.sel 3 [0, 1, 2] (by decide)).mask [true, false, false]))))
     | (refine s_isw ?_; first
     | refine c_seq ?_
     | refine c_block ?_
     | refine c_region ?_
     | refine c_skip ?_
     | (refine s_iscond ?_; first
     | (refine c_true rfl (by first | with_reducible rfl | with_reducible assumption | ((with_reducible refine decide_eq_true ?_); first | with_reducible rfl | with_reducible assumption | omega)) ?_))))
     | (refine z_isnil ?_; first
     | refine z_list ?_)
     | (refine z_isop ?_; first
     | (refine o_makew (vs := [.int .i64 (at' R k).1, .int .i64 (at' R k).2]) rfl tabOk zeroOk rfl rfl rfl rfl rfl rfl rfl (by decide) fun gn => ?_)
     | refine o_indexsn tabOk (hne (by omega)) rfl rfl rfl rfl (by omega) (by omega) (by decide) ?_
     | refine o_alloca (e := 75) (vs := rcs (0, 0)) rfl (by kernel_rfl) (by decide) fun g2 => ?_
     | (refine z_isbin ?_; first
     | (refine z_isb .add ?_; first
     | refine o_add rfl rfl (by omega) (by omega) (by decide) ?_)
     | (refine z_isb .lss ?_; first
     | refine o_lt rfl rfl (by decide) ?_))
     | (refine z_isload ?_; first
     | (refine o_loadsw tabOk (Rds.cons _ hrd) rfl rfl rfl (es := rcs (at' R k)) (rcs_len _) (by rw [rcs_len]; decide) (fun j u hu => by rw [Int.toNat_natCast]; exact rc_el R (by omega) j u hu) (by decide) ?_)
     | (refine z_ld1 tabOk rfl rfl ?_; first
     | refine o_loadm tabOk rfl rfl rfl (by repeat' (first | exact List.mem_cons_self | apply List.mem_cons_of_mem)) (by first | exact rc_f _ (by omega) | exact rc_t _ (by omega) | exact rcs_f _ | exact rcs_t _ | rfl | rfl) (by decide) ?_))
     | (refine z_isstore ?_; first
     | (refine z_stw rfl ?_; first
     | ((refine z_sti 0 rfl rfl ?_; refine o_storeb0 rfl tabOk rfl rfl rfl (by first | rfl | exact rcs_len _ | (simp only [rcs_len]; done) | rfl) (by first | rfl | exact rcs_one _ | exact rc_one _ | rfl) (by first | rfl | exact rcs_len _ | (simp only [rcs_len]; done) | rfl) ?_))))
     | (refine z_isbi ?_; first
     | (refine z_front rfl 2 rfl ?_; refine o_append rfl tabOk zeroOk rfl rfl rfl rfl rfl rfl (by first | exact hrd | exact Rds.cons _ hrd | exact own_rds 0 rfl | exact own_rds 1 rfl | exact own_rds 2 rfl | exact own_rds 3 rfl | assumption) (by first | rfl | rfl | (simp; done)) (by first | rfl | rfl | (simp; done)) (by omega) (by omega) (by decide) fun A' c' => ?_))
     | refine o_move rfl (by decide) ?_
     | refine o_assign rfl (by decide) ?_
     | refine o_field0 tabOk rfl rfl rfl rfl rfl (by decide) ?_))
  · obtain rfl : k = R.length := by omega
    repeat' (first
     | (refine s_is ?_; first
     | (refine s_isret ?_; first
     | (exact f_r1 rfl (res_t rfl) (B, e) trivial rfl (fun w h => by rw [List.take_length] at h; exact h)))
     | (refine s_isw ?_; first
     | refine c_seq ?_
     | refine c_region ?_
     | refine c_ret ?_
     | refine c_exit ?_
     | (refine s_iscond ?_; first
     | (refine c_false rfl (by first | with_reducible rfl | with_reducible assumption | ((with_reducible refine decide_eq_false ?_); first | with_reducible assumption | omega)) ?_))))
     | (refine z_isnil ?_; first
     | refine z_list ?_)
     | (refine z_isop ?_; first
     | (refine z_isbin ?_; first
     | (refine z_isb .lss ?_; first
     | refine o_lt rfl rfl (by decide) ?_))
     | refine o_move rfl (by decide) ?_
     | refine o_assign rfl (by decide) ?_))
end Go.Proofs.Ytfegdehgnhomnaa
