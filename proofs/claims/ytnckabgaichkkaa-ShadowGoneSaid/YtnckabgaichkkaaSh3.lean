/-
Shadow: what is dropped.
-/
import Derived.Test.YtnckabgaichkkaaSh2
namespace Go.Proofs.Ytnckabgaichkkaa
set_option linter.unusedVariables false
set_option linter.unusedSimpArgs false
open Eng
/-- Those that are out. -/
def flt (O : Mp) (L : List (Int × Int)) : List (Int × Int) := L.filter fun x => onM O x.1 x.2
theorem flt_nil (O : Mp) : flt O [] = [] := rfl
theorem flt_yes {O : Mp} {L : List (Int × Int)} {s p : Int} (h : onM O s p = true) : flt O (L ++ [(s, p)]) = flt O L ++ [(s, p)] := by
  simp [flt, h]
theorem flt_no {O : Mp} {L : List (Int × Int)} {s p : Int} (h : onM O s p = false) : flt O (L ++ [(s, p)]) = flt O L := by
  simp [flt, h]
theorem flt_le (O : Mp) (L : List (Int × Int)) : (flt O L).length ≤ L.length := List.length_filter_le _ _
theorem dls_off {M : Mp} {L : List (Int × Int)} {s p : Int} (h : (s, p) ∉ L) : onM (dls M L) s p = onM M s p := by
  unfold onM
  rw [dls_app, if_neg h]
theorem take_not {L : List (Int × Int)} (hN : L.Nodup) {k : Nat} (h : k < L.length) : L[k] ∉ L.take k := fun e => by
  obtain ⟨i, hi, e2⟩ := List.mem_iff_getElem.1 e
  rw [List.length_take] at hi
  rw [List.getElem_take] at e2
  have := List.pairwise_iff_getElem.1 hN i k (by omega) h (by omega)
  exact this e2
theorem uss_nodup (M : Mp) (f : Int) : (uss M f).Nodup := prs_nodup _ _
theorem row_nodup (M : Mp) (s : Int) : (row M s).Nodup := by
  unfold row
  rw [List.Nodup, List.pairwise_map]
  exact (al_nodup _ _).imp fun {a b} h e => by cases e; exact h rfl
attribute [local irreducible] Eng.Hold Eng.Z Eng.S Eng.cells Eng.old Eng.own Eng.mpc Eng.rgc Eng.onM Eng.fM Eng.wM Eng.upM Eng.delM
attribute [local irreducible] uss pcs pgs ilS dls row xs dmf rmM aM1 aM2 eqB usf flt
set_option maxHeartbeats 4000000 in
theorem sdrop_c (sb b m o : Nat) (M O : Mp) (L : List (Int × Int)) (hN : L.Nodup) (hx : L.length ≤ 2048) (hL : ∀ s p, (s, p) ∈ L → onM M s p = true) (A0 : Option Addr) (c0 : Nat) (fr : List Chunk) (hrd : Rds fr A0 (pcs L)) : Does Try.prog 52 [.pointer (some ⟨sb, 0, none⟩), .slice A0 L.length c0] (cells sb 89 [.pointer (some ⟨b, 0, none⟩), .map (some o)] :: cells b 78 [.map (some m)] :: mpc m (M) :: mpc o (O) :: fr) (fun _ : Option Addr × Nat => True) (fun x => .slice x.1 (flt O L).length x.2) (fun x => own x.1 x.2 72 2 (flt O L).length (pcs (flt O L)) :: cells sb 89 [.pointer (some ⟨b, 0, none⟩), .map (some o)] :: cells b 78 [.map (some m)] :: mpc m (dls M L) :: mpc o (dls O L) :: fr) := by
  intro w hw
  have hne0 : 0 < L.length → A0 ≠ none := fun h => hrd.ne (hw.sub (List.sublist_append_right [_, _, _, _] _)) (by unfold pcs; rw [flat_len prc 2 prc_len]; omega)
  refine f_enter Try.func52 rfl Try.ntmps52 rfl hw ?_
  repeat' (first
   | (refine s_is ?_; first
   | (refine s_isw ?_; first
   | (refine s_isloop ?_; first
   | ((refine c_loop (X := Option Addr × Nat × Nat) (fun y => y.2.2 ≤ L.length) (fun y => [(0, .pointer (some ⟨sb, 0, none⟩)), (5, .slice y.1 (flt O (L.take y.2.2)).length y.2.1), (10, .slice A0 L.length c0), (11, .int .i64 L.length), (12, .int .i64 y.2.2)]) (fun y => own y.1 y.2.1 72 2 (flt O (L.take y.2.2)).length (pcs (flt O (L.take y.2.2))) :: cells sb 89 [.pointer (some ⟨b, 0, none⟩), .map (some o)] :: cells b 78 [.map (some m)] :: mpc m (dls M (L.take y.2.2)) :: mpc o (dls O (L.take y.2.2)) :: fr) (fun y => L.length - y.2.2) (none, 0, 0) (Nat.zero_le _) ⟨rfl, (by rw [List.take_zero, flt_nil]; rfl), rfl, rfl, rfl, trivial⟩ (fun w h => by dsimp only; rw [List.take_zero, flt_nil, dls_nil, dls_nil, pcs_nil]; exact h.nil 72 2) (fun y hy => ?_); obtain ⟨A, c, k⟩ := y; dsimp only at hy ⊢; refine hold ?_)))
   | refine c_seq ?_
   | refine c_block ?_
   | refine c_region ?_))
   | (refine z_isnil ?_; first
   | refine z_list ?_)
   | (refine z_isop ?_; first
   | (refine z_isbi ?_; first
   | refine o_len tabOk rfl rfl (by decide) ?_)
   | refine o_move rfl (by decide) ?_
   | refine o_assign rfl (by decide) ?_))
  refine Hold.go ?_
  have hfl := flt_le O (L.take k)
  have htl : (L.take k).length ≤ L.length := by rw [List.length_take]; omega
  by_cases hl : k < L.length
  · have hel := pcs_el L hl
    have hta := take_add (L := L) hl
    have hnt := take_not hN hl
    have hmm := List.getElem_mem hl
    generalize L[k] = x at *
    obtain ⟨s, p⟩ := x
    have hon := hL s p hmm
    rw [← dls_off hnt] at hon
    have hoo := dls_off (M := O) hnt
    have hub := sunbind_y sb b m o (dls M (L.take k)) (dls O (L.take k)) s p hon
    rw [dls_add, dls_add, hta, hoo] at hub
    cases hO : onM O s p with
    | true =>
      rw [hO] at hub
      have hf := flt_yes (L := L.take k) hO
      rw [hta] at hf
      have hpc := pcs_add (flt O (L.take k)) s p
      repeat' (first
       | ((refine z_isdst 14 ?_; refine o_indexsn tabOk (hne0 (by omega)) rfl rfl rfl rfl (by omega) (by omega) (by decide) ?_))
       | ((refine z_isdst 15 ?_; refine o_loadsw tabOk (hrd.sub (List.sublist_append_right [_, _, _, _, _] _)) rfl rfl rfl (es := [.int .i64 s, .int .i64 p]) rfl (Nat.succ_pos _) hel (by decide) ?_))
       | ((refine z_isdst 22 ?_; refine z_sel rfl 6 [2, 3, 4, 5, 0, 1] (by decide) ?_; refine o_calla Try.func37 rfl rfl rfl (hub _) (by decide) fun _ _ => ?_; refine z_sel rfl 6 [5, 0, 1, 2, 3, 4] (by decide) ?_))
       | ((refine z_isdst 7 ?_; refine o_alloca (e := 72) (vs := [.int .i64 0, .int .i64 0]) rfl (by kernel_rfl) (by decide) fun g7 => ?_))
       | (refine s_is ?_; first
       | (refine s_isagain ?_; first
       | (exact c_again (A', c', k + 1) (by dsimp only; omega) (by dsimp only; omega) ⟨rfl, (by dsimp only; rw [hf, List.length_append]; rfl), rfl, rfl, rfl, trivial⟩ (fun w h => by dsimp only; rw [hf, hpc, List.length_append]; simp only [fronts, moveF, selF, sel1, nth, List.drop_succ_cons, List.drop_zero, List.eraseIdx_cons_zero, List.eraseIdx_cons_succ, maskL, List.cons_append, List.nil_append, List.append_eq, List.set_cons_zero, List.set_cons_succ] at h; exact ((h.sel 7 [0, 2, 3, 4, 5, 1, 6] (by decide)).mask [true, true, true, true, true, false, false]))))
       | (refine s_isw ?_; first
       | refine c_seq ?_
       | refine c_block ?_
       | refine c_region ?_
       | refine c_skip ?_
       | (refine s_iscond ?_; first
       | (refine c_true rfl (by first | with_reducible rfl | with_reducible assumption | ((with_reducible refine decide_eq_true ?_); first | with_reducible rfl | with_reducible assumption | omega)) ?_))))
       | (refine z_isnil ?_; first
       | refine z_list ?_)
       | (refine z_isop ?_; first
       | (refine o_makew (vs := [.int .i64 s, .int .i64 p]) rfl tabOk zeroOk rfl rfl rfl rfl rfl rfl rfl (by decide) fun gn => ?_)
       | (refine z_isbin ?_; first
       | (refine z_isb .add ?_; first
       | refine o_add rfl rfl (by omega) (by omega) (by decide) ?_)
       | (refine z_isb .lss ?_; first
       | refine o_lt rfl rfl (by decide) ?_))
       | (refine z_isload ?_; first
       | (refine z_ld1 tabOk rfl rfl ?_; first
       | refine o_loadm tabOk rfl rfl rfl (by repeat' (first | exact List.mem_cons_self | apply List.mem_cons_of_mem)) (by first | rfl | rfl) (by decide) ?_)
       | (refine z_ldw tabOk rfl rfl ?_; first
       | refine o_loadwm tabOk rfl rfl rfl (by repeat' (first | exact List.mem_cons_self | apply List.mem_cons_of_mem)) (by first | rfl | rfl) (by decide) ?_))
       | (refine z_isstore ?_; first
       | (refine z_stw rfl ?_; first
       | ((refine z_sti 0 rfl rfl ?_; refine o_storeb0 rfl tabOk rfl rfl rfl (by first | rfl | rfl) (by first | rfl | rfl) (by first | rfl | rfl) ?_))))
       | (refine z_isbi ?_; first
       | (refine z_front rfl 1 rfl ?_; refine o_append rfl tabOk zeroOk rfl rfl rfl rfl rfl rfl (by first | exact own_rds 1 rfl | exact own_rds 0 rfl | exact hrd | exact cells_rds 0 rfl | exact cells_rds 1 rfl | exact own_rds 2 rfl | exact own_rds 3 rfl | assumption) (by first | rfl | rfl | (simp; done)) (by first | rfl | rfl | (simp; done)) (by omega) (by omega) (by decide) fun A' c' => ?_))
       | refine o_move rfl (by decide) ?_
       | refine o_assign rfl (by decide) ?_
       | refine o_extract rfl rfl (by decide) ?_
       | refine o_field0 tabOk rfl rfl rfl rfl rfl (by decide) ?_))
    | false =>
      rw [hO] at hub
      have hf := flt_no (L := L.take k) hO
      rw [hta] at hf
      repeat' (first
       | ((refine z_isdst 14 ?_; refine o_indexsn tabOk (hne0 (by omega)) rfl rfl rfl rfl (by omega) (by omega) (by decide) ?_))
       | ((refine z_isdst 15 ?_; refine o_loadsw tabOk (hrd.sub (List.sublist_append_right [_, _, _, _, _] _)) rfl rfl rfl (es := [.int .i64 s, .int .i64 p]) rfl (Nat.succ_pos _) hel (by decide) ?_))
       | ((refine z_isdst 22 ?_; refine z_sel rfl 6 [2, 3, 4, 5, 0, 1] (by decide) ?_; refine o_calla Try.func37 rfl rfl rfl (hub _) (by decide) fun _ _ => ?_; refine z_sel rfl 6 [5, 0, 1, 2, 3, 4] (by decide) ?_))
       | ((refine z_isdst 7 ?_; refine o_alloca (e := 72) (vs := [.int .i64 0, .int .i64 0]) rfl (by kernel_rfl) (by decide) fun g7 => ?_))
       | (refine s_is ?_; first
       | (refine s_isagain ?_; first
       | (exact c_again (A, c, k + 1) (by dsimp only; omega) (by dsimp only; omega) ⟨rfl, (by dsimp only; rw [hf]; rfl), rfl, rfl, rfl, trivial⟩ (fun w h => by dsimp only; rw [hf]; simp only [fronts, moveF, selF, sel1, nth, List.drop_succ_cons, List.drop_zero, List.eraseIdx_cons_zero, List.eraseIdx_cons_succ, maskL, List.cons_append, List.nil_append, List.append_eq, List.set_cons_zero, List.set_cons_succ] at h; exact ((h.sel 6 [0, 1, 2, 3, 4, 5] (by decide)).mask [true, true, true, true, true, false]))))
       | (refine s_isw ?_; first
       | refine c_seq ?_
       | refine c_block ?_
       | refine c_region ?_
       | refine c_skip ?_
       | (refine s_iscond ?_; first
       | (refine c_true rfl (by first | with_reducible rfl | with_reducible assumption | ((with_reducible refine decide_eq_true ?_); first | with_reducible rfl | with_reducible assumption | omega)) ?_)
       | (refine c_false rfl (by first | with_reducible rfl | with_reducible assumption | ((with_reducible refine decide_eq_false ?_); first | with_reducible assumption | omega)) ?_))))
       | (refine z_isnil ?_; first
       | refine z_list ?_)
       | (refine z_isop ?_; first
       | (refine z_isbin ?_; first
       | (refine z_isb .add ?_; first
       | refine o_add rfl rfl (by omega) (by omega) (by decide) ?_)
       | (refine z_isb .lss ?_; first
       | refine o_lt rfl rfl (by decide) ?_))
       | (refine z_isload ?_; first
       | (refine z_ld1 tabOk rfl rfl ?_; first
       | refine o_loadm tabOk rfl rfl rfl (by repeat' (first | exact List.mem_cons_self | apply List.mem_cons_of_mem)) (by first | rfl | rfl) (by decide) ?_))
       | (refine z_isstore ?_; first
       | (refine z_stw rfl ?_; first
       | ((refine z_sti 0 rfl rfl ?_; refine o_storeb0 rfl tabOk rfl rfl rfl (by first | rfl | rfl) (by first | rfl | rfl) (by first | rfl | rfl) ?_))))
       | refine o_move rfl (by decide) ?_
       | refine o_assign rfl (by decide) ?_
       | refine o_extract rfl rfl (by decide) ?_
       | refine o_field0 tabOk rfl rfl rfl rfl rfl (by decide) ?_))
  · obtain rfl : k = L.length := by omega
    rw [List.take_length]
    repeat' (first
     | (refine s_is ?_; first
     | (refine s_isret ?_; first
     | exact f_r1 rfl (res_t rfl) (A, c) trivial rfl (fun w h => h))
     | (refine s_isw ?_; first
     | refine c_seq ?_
     | refine c_region ?_
     | refine c_ret ?_
     | refine c_exit ?_
     | (refine s_iscond ?_; first
     | (refine c_false rfl (by first | with_reducible rfl | with_reducible assumption | ((with_reducible refine decide_eq_false ?_); first | with_reducible assumption | omega)) ?_))))
     | (refine z_isnil ?_; first
     | refine z_list ?_)
     | (refine z_isop ?_; first
     | (refine z_isbin ?_; first
     | (refine z_isb .lss ?_; first
     | refine o_lt rfl rfl (by decide) ?_))
     | refine o_move rfl (by decide) ?_
     | refine o_assign rfl (by decide) ?_))
set_option maxHeartbeats 4000000 in
theorem srelease_c (sb b m o : Nat) (M O : Mp) (hM : WM M) (f : Int) (fr : List Chunk) : Does Try.prog 27 [.pointer (some ⟨sb, 0, none⟩), .int .i64 f] (cells sb 89 [.pointer (some ⟨b, 0, none⟩), .map (some o)] :: cells b 78 [.map (some m)] :: mpc m (M) :: mpc o (O) :: fr) (fun _ : Option Addr × Nat => True) (fun x => .slice x.1 (flt O (uss M f)).length x.2) (fun x => own x.1 x.2 72 2 (flt O (uss M f)).length (pcs (flt O (uss M f))) :: cells sb 89 [.pointer (some ⟨b, 0, none⟩), .map (some o)] :: cells b 78 [.map (some m)] :: mpc m (dls M (uss M f)) :: mpc o (dls O (uss M f)) :: fr) := by
  intro w hw
  have hle := uss_le M f
  refine f_enter Try.func27 rfl Try.ntmps27 rfl hw ?_
  repeat' (first
   | ((refine z_isdst 15 ?_; refine z_sel rfl 4 [1, 2, 0, 3] (by decide) ?_; refine o_calla Try.func17 rfl rfl rfl (buses_c b m M hM f _) (by decide) fun x _ => ?_; obtain ⟨A0, c0⟩ := x; dsimp only))
   | (refine s_is ?_; first
   | (refine s_isw ?_; first
   | (refine s_isloop ?_; first
   | ((refine c_loop (X := Option Addr × Nat × Nat) (fun y => y.2.2 ≤ (uss M f).length) (fun y => [(0, .pointer (some ⟨sb, 0, none⟩)), (5, .slice y.1 ((uss M f).take y.2.2).length y.2.1), (15, .slice A0 (uss M f).length c0), (16, .int .i64 (uss M f).length), (17, .int .i64 y.2.2)]) (fun y => own y.1 y.2.1 72 2 ((uss M f).take y.2.2).length (pcs ((uss M f).take y.2.2)) :: own A0 c0 45 2 (uss M f).length (pcs (uss M f)) :: cells sb 89 [.pointer (some ⟨b, 0, none⟩), .map (some o)] :: cells b 78 [.map (some m)] :: mpc m (M) :: mpc o (O) :: fr) (fun y => (uss M f).length - y.2.2) (none, 0, 0) (Nat.zero_le _) ⟨rfl, (by rw [List.take_zero]; rfl), rfl, rfl, rfl, trivial⟩ (fun w h => by dsimp only; rw [List.take_zero, pcs_nil]; exact (h.sel 5 [0, 3, 1, 2, 4] (by decide)).nil 72 2) (fun y hy => ?_); obtain ⟨A, c, k⟩ := y; dsimp only at hy ⊢; refine c_own2 1 rfl fun hkc hne => hold ?_)))
   | refine c_seq ?_
   | refine c_block ?_
   | refine c_region ?_
   | refine c_skip ?_
   | (refine s_iscond ?_; first
   | (refine c_false rfl (by first | (simp only [Bool.not_eq_false', decide_eq_true_eq]; omega) | (with_reducible assumption) | (rw [decide_eq_false] <;> (first | omega | with_reducible rfl)) | (rw [decide_eq_true] <;> (first | omega | with_reducible rfl)) | (simp; done) | (simp; omega)) ?_))))
   | (refine z_isnil ?_; first
   | refine z_list ?_)
   | (refine z_isop ?_; first
   | (refine z_isbin ?_; first
   | (refine z_isb .eql ?_; first
   | refine o_peq tabOk rfl rfl (by decide) ?_))
   | (refine z_isload ?_; first
   | (refine z_ld1 tabOk rfl rfl ?_; first
   | refine o_loadm tabOk rfl rfl rfl (by repeat' (first | exact List.mem_cons_self | apply List.mem_cons_of_mem)) (by first | rfl | rfl) (by decide) ?_))
   | (refine z_isbi ?_; first
   | refine o_len tabOk rfl rfl (by decide) ?_)
   | refine o_move rfl (by decide) ?_
   | refine o_assign rfl (by decide) ?_
   | refine o_nil rfl (by decide) ?_
   | refine o_field0 tabOk rfl rfl rfl rfl rfl (by decide) ?_))
  refine Hold.go ?_
  have htl : ((uss M f).take k).length ≤ 2048 := by rw [List.length_take]; omega
  by_cases hl : k < (uss M f).length
  · have hel := pcs_el (uss M f) hl
    have hta := take_add (L := uss M f) hl
    generalize (uss M f)[k] = x at *
    obtain ⟨s, p⟩ := x
    have hpc := pcs_add ((uss M f).take k) s p
    repeat' (first
     | ((refine z_isdst 19 ?_; refine o_indexsn tabOk (hne (by omega)) rfl rfl rfl rfl (by omega) (by omega) (by decide) ?_))
     | ((refine z_isdst 20 ?_; refine o_loadsw tabOk (own_rds 1 rfl) rfl rfl rfl (es := [.int .i64 s, .int .i64 p]) rfl (Nat.succ_pos _) hel (by decide) ?_))
     | ((refine z_isdst 7 ?_; refine o_alloca (e := 45) (vs := [.int .i64 0, .int .i64 0]) rfl (by kernel_rfl) (by decide) fun g7 => ?_))
     | ((refine z_isdst 26 ?_; refine o_buildf (t := 72) (zs := [.int .i64 0, .int .i64 0]) (vs := [.int .i64 _, .int .i64 _]) tabOk rfl rfl (by kernel_rfl) rfl ⟨_, _, rfl, rfl, Nat.le_of_ble_eq_true rfl, _, _, rfl, rfl, Nat.le_of_ble_eq_true rfl, rfl⟩ (by decide) ?_))
     | (refine s_is ?_; first
     | (refine s_isagain ?_; first
     | (exact c_again (A', c', k + 1) (by dsimp only; omega) (by dsimp only; omega) ⟨rfl, (by dsimp only; rw [← hta, List.length_append]; rfl), rfl, rfl, rfl, trivial⟩ (fun w h => by dsimp only; rw [← hta, hpc, List.length_append]; simp only [fronts, moveF, selF, sel1, nth, List.drop_succ_cons, List.drop_zero, List.eraseIdx_cons_zero, List.eraseIdx_cons_succ, maskL, List.cons_append, List.nil_append, List.append_eq, List.set_cons_zero, List.set_cons_succ] at h; exact ((h.sel 8 [0, 3, 4, 5, 6, 7, 1, 2] (by decide)).mask [true, true, true, true, true, true, false, false]))))
     | (refine s_isw ?_; first
     | refine c_seq ?_
     | refine c_block ?_
     | refine c_region ?_
     | refine c_skip ?_
     | (refine s_iscond ?_; first
     | (refine c_true rfl (by first | with_reducible rfl | with_reducible assumption | ((with_reducible refine decide_eq_true ?_); first | with_reducible rfl | with_reducible assumption | omega)) ?_))))
     | (refine z_isnil ?_; first
     | refine z_list ?_)
     | (refine z_isop ?_; first
     | (refine o_makew (vs := [.int .i64 s, .int .i64 p]) rfl tabOk zeroOk rfl rfl rfl rfl rfl rfl rfl (by decide) fun gn => ?_)
     | (refine z_isbin ?_; first
     | (refine z_isb .add ?_; first
     | refine o_add rfl rfl (by omega) (by omega) (by decide) ?_)
     | (refine z_isb .lss ?_; first
     | refine o_lt rfl rfl (by decide) ?_))
     | (refine z_isload ?_; first
     | (refine z_ld1 tabOk rfl rfl ?_; first
     | refine o_loadm tabOk rfl rfl rfl (by repeat' (first | exact List.mem_cons_self | apply List.mem_cons_of_mem)) (by first | rfl | rfl) (by decide) ?_))
     | (refine z_isstore ?_; first
     | (refine z_stw rfl ?_; first
     | ((refine z_sti 0 rfl rfl ?_; refine o_storeb0 rfl tabOk rfl rfl rfl (by first | rfl | rfl) (by first | rfl | rfl) (by first | rfl | rfl) ?_))))
     | (refine z_isix ?_; first
     | refine o_index0 tabOk rfl rfl rfl rfl (by omega) (by omega) (by decide) ?_)
     | (refine z_isbi ?_; first
     | (refine z_front rfl 2 rfl ?_; refine o_append rfl tabOk zeroOk rfl rfl rfl rfl rfl rfl (by first | exact own_rds 1 rfl | exact own_rds 0 rfl | exact hrd | exact cells_rds 0 rfl | exact cells_rds 1 rfl | exact own_rds 2 rfl | exact own_rds 3 rfl | assumption) (by first | rfl | rfl | (simp; done)) (by first | rfl | rfl | (simp; done)) (by omega) (by omega) (by decide) fun A' c' => ?_))
     | refine o_move rfl (by decide) ?_
     | refine o_assign rfl (by decide) ?_))
  · obtain rfl : k = (uss M f).length := by omega
    rw [List.take_length]
    repeat' (first
     | ((refine z_isdst 32 ?_; refine z_sel rfl 6 [2, 3, 4, 5, 0, 1] (by decide) ?_; refine o_calla Try.func52 rfl rfl rfl (sdrop_c sb b m o M O (uss M f) (uss_nodup M f) hle (fun s p h => onM_iff.2 ((uss_mem hM).1 h).1) _ _ _ (own_rds 0 rfl)) (by decide) fun y _ => ?_))
     | (refine s_is ?_; first
     | (refine s_isret ?_; first
     | exact f_r1 rfl (res_t rfl) (y.1, y.2) trivial rfl (fun w h => ((h.sel 7 [0, 1, 2, 3, 4, 5, 6] (by decide)).mask [true, true, true, true, true, false, false])))
     | (refine s_isw ?_; first
     | refine c_seq ?_
     | refine c_region ?_
     | refine c_ret ?_
     | refine c_exit ?_
     | (refine s_iscond ?_; first
     | (refine c_false rfl (by first | with_reducible rfl | with_reducible assumption | ((with_reducible refine decide_eq_false ?_); first | with_reducible assumption | omega)) ?_))))
     | (refine z_isnil ?_; first
     | refine z_list ?_)
     | (refine z_isop ?_; first
     | (refine z_isbin ?_; first
     | (refine z_isb .lss ?_; first
     | refine o_lt rfl rfl (by decide) ?_))
     | refine o_move rfl (by decide) ?_
     | refine o_assign rfl (by decide) ?_))
set_option maxHeartbeats 4000000 in
theorem sempty_c (sb b m o : Nat) (M O : Mp) (hM : WM M) (s : Int) (fr : List Chunk) : Does Try.prog 40 [.pointer (some ⟨sb, 0, none⟩), .int .i64 s] (cells sb 89 [.pointer (some ⟨b, 0, none⟩), .map (some o)] :: cells b 78 [.map (some m)] :: mpc m (M) :: mpc o (O) :: fr) (fun _ : Option Addr × Nat => True) (fun x => .slice x.1 (flt O (row M s)).length x.2) (fun x => own x.1 x.2 72 2 (flt O (row M s)).length (pcs (flt O (row M s))) :: cells sb 89 [.pointer (some ⟨b, 0, none⟩), .map (some o)] :: cells b 78 [.map (some m)] :: mpc m (dls M (row M s)) :: mpc o (dls O (row M s)) :: fr) := by
  intro w hw
  have hle := pgs_le M s
  have hrl := row_len M s
  refine f_enter Try.func40 rfl Try.ntmps40 rfl hw ?_
  repeat' (first
   | ((refine z_isdst 10 ?_; refine o_calla Try.func35 rfl rfl rfl (spages_c sb b m o M O hM s _) (by decide) fun x _ => ?_; obtain ⟨A0, c0⟩ := x; dsimp only))
   | (refine s_is ?_; first
   | (refine s_isw ?_; first
   | (refine s_isloop ?_; first
   | ((refine c_loop (X := Option Addr × Nat × Nat) (fun y => y.2.2 ≤ (pgs M s).length) (fun y => [(0, .pointer (some ⟨sb, 0, none⟩)), (1, .int .i64 s), (5, .slice y.1 ((row M s).take y.2.2).length y.2.1), (10, .slice A0 (pgs M s).length c0), (11, .int .i64 (pgs M s).length), (12, .int .i64 y.2.2)]) (fun y => own y.1 y.2.1 72 2 ((row M s).take y.2.2).length (pcs ((row M s).take y.2.2)) :: own A0 c0 3 1 (pgs M s).length (ilS (pgs M s)) :: cells sb 89 [.pointer (some ⟨b, 0, none⟩), .map (some o)] :: cells b 78 [.map (some m)] :: mpc m (M) :: mpc o (O) :: fr) (fun y => (pgs M s).length - y.2.2) (none, 0, 0) (Nat.zero_le _) ⟨rfl, rfl, (by rw [List.take_zero]; rfl), rfl, rfl, rfl, trivial⟩ (fun w h => by dsimp only; rw [List.take_zero, pcs_nil]; exact h.nil 72 2) (fun y hy => ?_); obtain ⟨A, c, k⟩ := y; dsimp only at hy ⊢; refine c_own2 1 rfl fun hkc hne => hold ?_)))
   | refine c_seq ?_
   | refine c_block ?_
   | refine c_region ?_))
   | (refine z_isnil ?_; first
   | refine z_list ?_)
   | (refine z_isop ?_; first
   | (refine z_isbi ?_; first
   | refine o_len tabOk rfl rfl (by decide) ?_)
   | refine o_move rfl (by decide) ?_
   | refine o_assign rfl (by decide) ?_))
  refine Hold.go ?_
  have htl : ((row M s).take k).length ≤ 2048 := by rw [List.length_take]; omega
  by_cases hl : k < (pgs M s).length
  · have hcell := ils_at (pgs M s) hl
    have hta := take_add (L := row M s) (k := k) (by rw [row_len]; exact hl)
    rw [row_at hl] at hta
    generalize (pgs M s)[k] = p at *
    have hpc := pcs_add ((row M s).take k) s p
    repeat' (first
     | ((refine z_isdst 14 ?_; refine o_indexsn tabOk (hne (by omega)) rfl rfl rfl rfl (by omega) (by omega) (by decide) ?_))
     | ((refine z_isdst 19 ?_; refine o_buildf (t := 72) (zs := [.int .i64 0, .int .i64 0]) (vs := [.int .i64 _, .int .i64 _]) tabOk rfl rfl (by kernel_rfl) rfl ⟨_, _, rfl, rfl, Nat.le_of_ble_eq_true rfl, _, _, rfl, rfl, Nat.le_of_ble_eq_true rfl, rfl⟩ (by decide) ?_))
     | (refine s_is ?_; first
     | (refine s_isagain ?_; first
     | (exact c_again (A', c', k + 1) (by dsimp only; omega) (by dsimp only; omega) ⟨rfl, rfl, (by dsimp only; rw [← hta, List.length_append]; rfl), rfl, rfl, rfl, trivial⟩ (fun w h => by dsimp only; rw [← hta, hpc, List.length_append]; simp only [fronts, moveF, selF, sel1, nth, List.drop_succ_cons, List.drop_zero, List.eraseIdx_cons_zero, List.eraseIdx_cons_succ, maskL, List.cons_append, List.nil_append, List.append_eq, List.set_cons_zero, List.set_cons_succ] at h; exact ((h.sel 7 [0, 2, 3, 4, 5, 6, 1] (by decide)).mask [true, true, true, true, true, true, false]))))
     | (refine s_isw ?_; first
     | refine c_seq ?_
     | refine c_block ?_
     | refine c_region ?_
     | refine c_skip ?_
     | (refine s_iscond ?_; first
     | (refine c_true rfl (by first | with_reducible rfl | with_reducible assumption | ((with_reducible refine decide_eq_true ?_); first | with_reducible rfl | with_reducible assumption | omega)) ?_))))
     | (refine z_isnil ?_; first
     | refine z_list ?_)
     | (refine z_isop ?_; first
     | (refine o_makew (vs := [.int .i64 s, .int .i64 p]) rfl tabOk zeroOk rfl rfl rfl rfl rfl rfl rfl (by decide) fun gn => ?_)
     | (refine z_isbin ?_; first
     | (refine z_isb .add ?_; first
     | refine o_add rfl rfl (by omega) (by omega) (by decide) ?_)
     | (refine z_isb .lss ?_; first
     | refine o_lt rfl rfl (by decide) ?_))
     | (refine z_isload ?_; first
     | (refine z_ld1 tabOk rfl rfl ?_; first
     | refine o_loads tabOk (by first | exact own_rds 1 rfl | exact own_rds 0 rfl | exact hrd | exact cells_rds 0 rfl | exact cells_rds 1 rfl | exact own_rds 2 rfl | exact own_rds 3 rfl | assumption) rfl rfl rfl (by first | exact hcell | rfl | rfl) (by decide) ?_))
     | (refine z_isbi ?_; first
     | (refine z_front rfl 1 rfl ?_; refine o_append rfl tabOk zeroOk rfl rfl rfl rfl rfl rfl (by first | exact own_rds 1 rfl | exact own_rds 0 rfl | exact hrd | exact cells_rds 0 rfl | exact cells_rds 1 rfl | exact own_rds 2 rfl | exact own_rds 3 rfl | assumption) (by first | rfl | rfl | (simp; done)) (by first | rfl | rfl | (simp; done)) (by omega) (by omega) (by decide) fun A' c' => ?_))
     | refine o_move rfl (by decide) ?_
     | refine o_assign rfl (by decide) ?_))
  · obtain rfl : k = (pgs M s).length := by omega
    rw [show (row M s).take (pgs M s).length = row M s by rw [← row_len]; exact List.take_length]
    repeat' (first
     | ((refine z_isdst 25 ?_; refine z_sel rfl 6 [2, 3, 4, 5, 0, 1] (by decide) ?_; refine o_calla Try.func52 rfl rfl rfl (sdrop_c sb b m o M O (row M s) (row_nodup M s) (by omega) (fun a q h => onM_iff.2 (by have := (row_mem hM).1 h; rw [this.1]; exact this.2)) _ _ _ (own_rds 0 rfl)) (by decide) fun y _ => ?_))
     | (refine s_is ?_; first
     | (refine s_isret ?_; first
     | exact f_r1 rfl (res_t rfl) (y.1, y.2) trivial rfl (fun w h => ((h.sel 7 [0, 1, 2, 3, 4, 5, 6] (by decide)).mask [true, true, true, true, true, false, false])))
     | (refine s_isw ?_; first
     | refine c_seq ?_
     | refine c_region ?_
     | refine c_ret ?_
     | refine c_exit ?_
     | (refine s_iscond ?_; first
     | (refine c_false rfl (by first | with_reducible rfl | with_reducible assumption | ((with_reducible refine decide_eq_false ?_); first | with_reducible assumption | omega)) ?_))))
     | (refine z_isnil ?_; first
     | refine z_list ?_)
     | (refine z_isop ?_; first
     | (refine z_isbin ?_; first
     | (refine z_isb .lss ?_; first
     | refine o_lt rfl rfl (by decide) ?_))
     | refine o_move rfl (by decide) ?_
     | refine o_assign rfl (by decide) ?_))
end Go.Proofs.Ytnckabgaichkkaa
