/-
Shadow: whatever is bound, filled and unbound, the table is the document's at each moment.
-/
import Derived.Test.YtnckabgaichkkaaSh9
namespace Go.Proofs.Ytnckabgaichkkaa
set_option linter.unusedVariables false
set_option linter.unusedSimpArgs false
open Eng
attribute [local irreducible] Eng.Hold Eng.Z Eng.S Eng.cells Eng.old Eng.own Eng.mpc Eng.rgc Eng.onM Eng.fM Eng.wM Eng.upM Eng.delM
attribute [local irreducible] uss pcs pgs ilS dls row xs dmf rmM aM1 aM2 eqB usf flt onf os dof aS1 aS2
set_option maxHeartbeats 8000000 in
theorem shadowPlays (W : World) (A0 : Option Addr) (c0 : Nat) (D : List Db) (hrd0 : Rds [old W] A0 (D.flatMap Db.cs)) (hx : D.length ≤ 9223372036854775807) :
    Does Try.prog 7 [.slice A0 D.length c0] [old W] (fun _ : Unit => True) (fun _ => .bool true) (fun _ => [old W]) := by
  intro w hw
  have hne0 : 0 < D.length → A0 ≠ none := fun h => hrd0.ne hw (by rw [flat_len Db.cs 5 db_len]; omega)
  refine f_enter Try.func7 rfl Try.ntmps7 rfl hw ?_
  repeat' (first
   | ((refine z_isdst 10 ?_; refine o_calla Try.func25 rfl rfl rfl (snew_c _) (by decide) fun x _ => ?_; obtain ⟨sb, b, m, o⟩ := x; dsimp only))
   | ((refine z_isdst 11 ?_; refine o_buildf (t := 61) (zs := xs noM ++ os noM) (vs := xs noM ++ os noM) tabOk (ps := []) (pvs := []) rfl rfl zs_zero rfl rfl (by decide) ?_))
   | ((refine z_isdst 12 ?_; refine o_boxa (vs := xs noM ++ os noM) rfl rfl (by decide) fun gt => ?_))
   | (refine s_is ?_; first
   | (refine s_isw ?_; first
   | (refine s_isloop ?_; first
   | ((refine c_loop (X := Nat × Mp × Mp) (fun y => y.1 ≤ 50 ∧ y.1 ≤ D.length ∧ WM y.2.1 ∧ WO y.2.1 y.2.2) (fun y => [(0, .slice A0 D.length c0), (3, .pointer (some ⟨sb, 0, none⟩)), (4, .pointer (some ⟨gt, 0, none⟩)), (5, .int .i64 y.1)]) (fun y => cells sb 89 [.pointer (some ⟨b, 0, none⟩), .map (some o)] :: cells b 78 [.map (some m)] :: mpc m (y.2.1) :: mpc o (y.2.2) :: cells gt 61 (xs (y.2.1) ++ os (y.2.2)) :: [old W]) (fun y => 50 - y.1) (0, noM, noM) ⟨Nat.zero_le _, Nat.zero_le _, wm_no, wo_no⟩ ⟨rfl, rfl, rfl, rfl, trivial⟩ (fun w h => ((h.sel 6 [1, 2, 3, 4, 0, 5] (by decide)).mask [true, true, true, true, true, true])) (fun y hy => ?_); obtain ⟨i, M0, O0⟩ := y; obtain ⟨hi, hi2, hM0, hO0⟩ := hy; dsimp only at hi hi2 hM0 hO0 ⊢; refine hold ?_)))
   | refine c_seq ?_
   | refine c_block ?_
   | refine c_region ?_))
   | (refine z_isnil ?_; first
   | refine z_list ?_)
   | (refine z_isop ?_; first
   | refine o_assign rfl (by decide) ?_))
  refine Hold.go ?_
  by_cases hlt : i < D.length
  · by_cases hlt2 : i < 50
    · obtain ⟨d, hd⟩ : ∃ d, D[i]? = some d := ⟨D[i], List.getElem?_eq_getElem hlt⟩
      obtain ⟨k, s, p, f, x⟩ := d
      have hdl : ∀ (j : Nat) u, ([.int .i64 k, .int .i64 s, .int .i64 p, .int .i64 f, .bool x] : List Value)[j]? = some u → (D.flatMap Db.cs)[((i : Int)).toNat * 5 + j]? = some u := db_at D _ hd
      repeat' (first
       | ((refine z_isdst 25 ?_; refine o_indexsn tabOk (hne0 (by omega)) rfl rfl rfl rfl (by omega) (by omega) (by decide) ?_))
       | ((refine z_isdst 26 ?_; refine o_loadsw tabOk (hrd0.sub (List.sublist_append_right [_, _, _, _, _] _)) rfl rfl rfl (es := [.int .i64 k, .int .i64 s, .int .i64 p, .int .i64 f, .bool x]) rfl (Nat.succ_pos _) hdl (by decide) ?_))
       | ((refine z_isdst 30 ?_; refine z_sel rfl 6 [1, 2, 3, 4, 5, 0] (by decide) ?_; refine o_calla Try.func26 rfl rfl rfl (sdoes_c sb b m o gt M0 O0 hM0 hO0 k s p f x _) (by decide) fun y hy => ?_; obtain ⟨M, O⟩ := y; obtain ⟨hM, hO⟩ := hy; dsimp only at hM hO ⊢; refine hold ?_))
       | ((refine z_isdst 6 ?_; refine o_alloca (e := 63) (vs := [.int .i64 0, .int .i64 0, .int .i64 0, .int .i64 0, .bool false]) rfl (by kernel_rfl) (by decide) fun g6 => ?_))
       | (refine s_is ?_; first
       | (refine s_isw ?_; first
       | refine c_seq ?_
       | refine c_block ?_
       | refine c_region ?_
       | refine c_skip ?_
       | (refine s_iscond ?_; first
       | (refine c_true rfl (by first | with_reducible rfl | with_reducible assumption | ((with_reducible refine decide_eq_true ?_); first | with_reducible rfl | with_reducible assumption | omega)) ?_))))
       | (refine z_isg1 ?_; first
       | (refine z_want1 rfl rfl (by first | with_reducible rfl | with_reducible assumption | ((with_reducible refine decide_eq_true ?_); first | with_reducible rfl | with_reducible assumption | omega)) ?_))
       | (refine z_isnil ?_; first
       | refine z_list ?_)
       | (refine z_isop ?_; first
       | (refine z_isbin ?_; first
       | (refine z_isb .lss ?_; first
       | refine o_lt rfl rfl (by decide) ?_))
       | (refine z_isload ?_; first
       | (refine z_ldw tabOk rfl rfl ?_; first
       | refine o_loadwm tabOk rfl rfl rfl (by repeat' (first | exact List.mem_cons_self | apply List.mem_cons_of_mem)) (by first | rfl | rfl) (by decide) ?_))
       | (refine z_isstore ?_; first
       | (refine z_stw rfl ?_; first
       | ((refine z_sti 0 rfl rfl ?_; refine o_storeb0 rfl tabOk rfl rfl rfl (by first | rfl | rfl) (by first | rfl | rfl) (by first | rfl | rfl) ?_))))
       | (refine z_ispick ?_; first
       | (refine o_pick1 rfl (by first | with_reducible rfl | with_reducible assumption | ((with_reducible refine decide_eq_true ?_); first | with_reducible rfl | with_reducible assumption | omega)) rfl (by decide) ?_))
       | (refine z_isbi ?_; first
       | refine o_len tabOk rfl rfl (by decide) ?_)
       | refine o_move rfl (by decide) ?_))
      refine Hold.go ?_
      have hle := prs_le (onf O) 2048
      have hpl := pgs_le M s
      have hul := uss_le M f
      repeat' (first
       | ((refine z_isdst 38 ?_; refine o_calla Try.func28 rfl rfl rfl (sget_c sb b m o M O s p _) (by decide) fun _ _ => ?_))
       | ((refine z_isdst 9 ?_; refine m_alloca (e := 27) (vs := [.bool false, .int .i64 0, .bool false]) (by kernel_rfl) ?_))
       | ((refine z_isdst 48 ?_; refine o_callx0 Try.func13 rfl rfl rfl (xget_c gt M hM s p _ (Rds.pre (cells_rds 5 rfl))) (by decide) (by decide) ?_))
       | refine z_mono1 (by decide) fun g9 => ?_
       | ((refine z_isdst 7 ?_; refine o_alloca (e := 36) (vs := [.int .i64 0, .bool false]) rfl (by kernel_rfl) (by decide) fun g7 => ?_))
       | (refine s_is ?_; first
       | (refine c_free0 ⟨[48], [9]⟩ [0, 1, 2, 3, 4, 5, 6, 8, 7, 9] (id := 10) mixed (by kernel_rfl) ?_)
       | (refine c_join (x := .seq (.region 11 _ _) _) (X := Unit) (fun _ => True) (fun _ => [(0, .slice A0 D.length c0), (3, .pointer (some ⟨sb, 0, none⟩)), (4, .pointer (some ⟨gt, 0, none⟩)), (5, .int .i64 i), (6, .pointer (some ⟨g6, 0, none⟩)), (8, .bool (onM M s p))]) (fun _ => cells sb 89 [.pointer (some ⟨b, 0, none⟩), .map (some o)] :: cells b 78 [.map (some m)] :: mpc m (M) :: mpc o (O) :: cells gt 61 (xs (M) ++ os (O)) :: cells g6 63 [.int .i64 k, .int .i64 s, .int .i64 p, .int .i64 f, .bool x] :: [old W]) (hold ?_) (fun _ _ => hold ?_))
       | (refine s_isw ?_; first
       | refine c_seq ?_
       | refine c_region ?_
       | refine c_skip ?_
       | (refine s_iscond ?_; first
       | (refine c_false rfl (by first | (simp only [Bool.not_eq_false', decide_eq_true_eq]; omega) | (with_reducible assumption) | (rw [decide_eq_false] <;> (first | omega | with_reducible rfl)) | (rw [decide_eq_true] <;> (first | omega | with_reducible rfl)) | (simp; done) | (simp; omega)) ?_))))
       | (refine z_isnil ?_; first
       | refine z_list ?_)
       | (refine z_isop ?_; first
       | refine m_inib tabOk (by decide) rfl (by decide) (fun _ => rfl) rfl rfl rfl rfl ?_
       | (refine z_isload ?_; first
       | (refine z_ld1 tabOk rfl rfl ?_; first
       | refine o_loadm tabOk rfl rfl rfl (by repeat' (first | exact List.mem_cons_self | apply List.mem_cons_of_mem)) (by first | rfl | rfl) (by decide) ?_))
       | (refine z_isstore ?_; first
       | (refine z_stw rfl ?_; first
       | ((refine z_sti 0 rfl rfl ?_; refine o_storeb0 rfl tabOk rfl rfl rfl (by first | rfl | rfl) (by first | rfl | rfl) (by first | rfl | rfl) ?_))))
       | refine o_move rfl (by decide) ?_
       | refine o_assign rfl (by decide) ?_
       | refine o_nil rfl (by decide) ?_
       | refine o_extract rfl rfl (by decide) ?_
       | refine o_not rfl (by decide) ?_
       | refine o_field0 tabOk rfl rfl rfl rfl rfl (by decide) ?_))
      · refine Hold.go ?_
        generalize ho : onM M s p = o0 at *
        generalize hw2 : wM M s p = w2 at *
        repeat' (first
         | ((refine s_sel 9 [2, 3, 4, 5, 6, 0, 1, 7, 8] (by decide) ?_; refine c_free0 ⟨[69, 71, 72, 79, 85, 93, 99, 100], []⟩ [0, 1, 2, 3, 4, 5, 6, 7, 8, 9, 10, 11, 12, 13, 14, 15, 16, 17, 18, 19, 21, 20, 22, 23, 24, 25, 26, 27, 28, 29, 31, 32, 33, 34, 35, 30, 36, 37, 38, 39, 40, 41, 42, 43, 45, 46, 47, 48, 49, 44, 50, 51, 52, 53] (id := 11) mixed (by kernel_rfl) ?_))
         | ((refine z_isdst 69 ?_; refine o_callx1 Try.func33 rfl rfl rfl (sout_at sb b m o M O (hO.wm hM) _ _) (by decide) (by decide) fun u _ => ?_))
         | ((refine z_isdst 71 ?_; refine o_callx1 Try.func34 rfl rfl rfl (yall_c gt M O _ (cells_rds 5 rfl)) (by decide) (by decide) fun v _ => ?_))
         | ((refine z_isdst 72 ?_; refine o_callx0 Try.func32 rfl rfl rfl (places_c (prs (onf O) 2048) _ _ _ _ _ (own_rds 1 rfl) (own_rds 0 rfl) (by omega)) (by decide) (by decide) ?_))
         | ((refine z_isdst 79 ?_; refine o_callx0 Try.func30 rfl rfl rfl (suses_at sb b m o M O hM f _ _) (by decide) (by decide) ?_))
         | ((refine z_isdst 85 ?_; refine o_callx1 Try.func18 rfl rfl rfl (xuses_c gt M f _ (Rds.pre (cells_rds 6 rfl))) (by decide) (by decide) fun z _ => ?_))
         | ((refine z_isdst 93 ?_; refine o_callx1 Try.func35 rfl rfl rfl (spages_at sb b m o M O hM s _ _) (by decide) (by decide) fun q _ => ?_))
         | ((refine z_isdst 99 ?_; refine o_callx1 Try.func16 rfl rfl rfl (xpages_c gt M hM s _ (Rds.pre (cells_rds 8 rfl))) (by decide) (by decide) fun r _ => ?_))
         | ((refine z_isdst 100 ?_; refine o_callx0 Try.func14 rfl rfl rfl (ssame_c (pgs M s) _ _ _ _ _ (own_rds 1 rfl) (own_rds 0 rfl) (by omega)) (by decide) (by decide) ?_))
         | (refine s_is ?_; first
         | (refine s_ismeet ?_; first
         | exact c_meet () trivial ⟨rfl, rfl, rfl, rfl, rfl, rfl, trivial⟩ (fun w h => ((h.sel 14 [5, 6, 7, 8, 9, 12, 13, 0, 1, 2, 3, 4, 10, 11] (by decide)).mask [true, true, true, true, true, true, true, false, false, false, false, false, false, false])))
         | (refine s_isw ?_; first
         | refine c_seq ?_
         | refine c_skip ?_
         | (refine s_iscond ?_; first
         | (refine c_false rfl (by first | (simp only [Bool.not_eq_false', decide_eq_true_eq]; omega) | (with_reducible assumption) | (rw [decide_eq_false] <;> (first | omega | with_reducible rfl)) | (rw [decide_eq_true] <;> (first | omega | with_reducible rfl)) | (simp; done) | (simp; omega)) ?_))))
         | (refine z_isg0 ?_; first
         | (refine z_want0 rfl rfl (by first | with_reducible rfl | with_reducible assumption | ((with_reducible refine decide_eq_false ?_); first | with_reducible assumption | omega)) ?_)
         | (refine z_want0 rfl rfl (by first | (simp only [Bool.not_eq_false', decide_eq_true_eq]; omega) | (with_reducible assumption) | (rw [decide_eq_false] <;> (first | omega | with_reducible rfl)) | (rw [decide_eq_true] <;> (first | omega | with_reducible rfl)) | (simp; done) | (simp; omega)) ?_))
         | (refine z_isnil ?_; first
         | refine z_mono0n ?_)
         | (refine z_isop ?_; first
         | (refine z_isbin ?_; first
         | (refine z_isb .neq ?_; first
         | refine o_ne rfl rfl (by decide) ?_
         | refine o_bne tabOk rfl rfl rfl (by decide) ?_))
         | (refine z_isload ?_; first
         | (refine z_ld1 tabOk rfl rfl ?_; first
         | refine o_loadm tabOk rfl rfl rfl (by repeat' (first | exact List.mem_cons_self | apply List.mem_cons_of_mem)) (by first | rfl | rfl) (by decide) ?_))
         | (refine z_ispick ?_; first
         | (refine o_pick0 rfl (by first | with_reducible rfl | with_reducible assumption | ((with_reducible refine decide_eq_false ?_); first | with_reducible assumption | omega)) rfl (by decide) ?_)
         | (refine o_pick0 rfl (by first | (simp only [Bool.not_eq_false', decide_eq_true_eq]; omega) | (with_reducible assumption) | (rw [decide_eq_false] <;> (first | omega | with_reducible rfl)) | (rw [decide_eq_true] <;> (first | omega | with_reducible rfl)) | (simp; done) | (simp; omega)) rfl (by decide) ?_))
         | (refine z_isbi ?_; first
         | refine o_len tabOk rfl rfl (by decide) ?_)
         | refine o_move rfl (by decide) ?_
         | refine o_nil rfl (by decide) ?_
         | refine o_not rfl (by decide) ?_
         | refine o_field0 tabOk rfl rfl rfl rfl rfl (by decide) ?_))
      · refine Hold.go ?_
        have hfil := fun wr fr => sfilled_at sb b m o M O s p wr fr
        cases hon : onM M s p with
        | true =>
          have hip := hM s p (onM_iff.1 hon)
          obtain ⟨a, rfl⟩ : ∃ n : Nat, s = n := ⟨s.toNat, by have := hip.1; omega⟩
          obtain ⟨c, rfl⟩ : ∃ n : Nat, p = n := ⟨p.toNat, by have := hip.2.2.1; omega⟩
          have ha : a < 64 := by have := hip.2.1; omega
          have hc : c < 32 := by have := hip.2.2.2; omega
          have hel := zo_el M O ha hc
          generalize onM O a c = u0 at *
          cases u0
          all_goals repeat' (first
           | ((refine z_isdst 110 ?_; refine o_callx0 Try.func29 rfl rfl rfl (hfil _ _) (by decide) (by decide) ?_))
           | ((refine z_isdst 120 ?_; refine o_loadr tabOk (cells_rds 4 rfl) rfl rfl rfl hel (by decide) ?_))
           | (refine s_is ?_; first
           | (refine c_free0 ⟨[110, 132], []⟩ [0, 1, 2, 3, 4, 5, 6, 8, 9, 10, 11, 12, 13, 14, 15, 16, 17, 7, 18, 19, 20, 21, 22, 23, 24, 25, 26, 27, 28, 29, 30, 31] (id := 13) mixed (by kernel_rfl) ?_)
           | (refine s_isagain ?_; first
           | (exact c_again (i + 1, M, O) ⟨(by dsimp only; omega), (by dsimp only; omega), hM, hO⟩ (by dsimp only; omega) ⟨rfl, rfl, rfl, rfl, trivial⟩ (fun w h => ((h.sel 7 [0, 1, 2, 3, 4, 6, 5] (by decide)).mask [true, true, true, true, true, true, false]))))
           | (refine s_isw ?_; first
           | refine c_seq ?_
           | refine c_region ?_
           | refine c_skip ?_
           | (refine s_iscond ?_; first
           | (refine c_false rfl (by first | with_reducible rfl | with_reducible assumption | ((with_reducible refine decide_eq_false ?_); first | with_reducible assumption | omega)) ?_))))
           | (refine z_isg1 ?_; first
           | (refine z_want1 rfl rfl (by first | with_reducible rfl | with_reducible assumption | ((with_reducible refine decide_eq_true ?_); first | with_reducible rfl | with_reducible assumption | omega)) ?_)
           | (refine z_skip1 (by decide) rfl rfl (by first | (simp only [Bool.not_eq_false', decide_eq_true_eq]; omega) | (with_reducible assumption) | (rw [decide_eq_false] <;> (first | omega | with_reducible rfl)) | (rw [decide_eq_true] <;> (first | omega | with_reducible rfl)) | (simp; done) | (simp; omega)) ?_))
           | (refine z_isg0 ?_; first
           | (refine z_want0 rfl rfl (by first | (simp only [Bool.not_eq_false', decide_eq_true_eq]; omega) | (with_reducible assumption) | (rw [decide_eq_false] <;> (first | omega | with_reducible rfl)) | (rw [decide_eq_true] <;> (first | omega | with_reducible rfl)) | (simp; done) | (simp; omega)) ?_))
           | (refine z_isnil ?_; first
           | refine z_mono0n ?_
           | refine z_list ?_)
           | (refine z_isop ?_; first
           | refine o_indexn tabOk rfl rfl rfl rfl (by omega) (by omega) (by decide) ?_
           | (refine z_isbin ?_; first
           | (refine z_isb .add ?_; first
           | refine o_add rfl rfl (by omega) (by omega) (by decide) ?_)
           | (refine z_isb .neq ?_; first
           | refine o_bne tabOk rfl rfl rfl (by decide) ?_))
           | (refine z_isload ?_; first
           | (refine z_ld1 tabOk rfl rfl ?_; first
           | refine o_loadm tabOk rfl rfl rfl (by repeat' (first | exact List.mem_cons_self | apply List.mem_cons_of_mem)) (by first | rfl | rfl) (by decide) ?_))
           | (refine z_ispick ?_; first
           | (refine o_pick1 rfl (by first | with_reducible rfl | with_reducible assumption | ((with_reducible refine decide_eq_true ?_); first | with_reducible rfl | with_reducible assumption | omega)) rfl (by decide) ?_)
           | (refine o_pick0 rfl (by first | (simp only [Bool.not_eq_false', decide_eq_true_eq]; omega) | (with_reducible assumption) | (rw [decide_eq_false] <;> (first | omega | with_reducible rfl)) | (rw [decide_eq_true] <;> (first | omega | with_reducible rfl)) | (simp; done) | (simp; omega)) rfl (by decide) ?_))
           | refine o_move rfl (by decide) ?_
           | refine o_assign rfl (by decide) ?_
           | refine o_nil rfl (by decide) ?_
           | refine o_not rfl (by decide) ?_
           | refine o_field0 tabOk rfl rfl rfl rfl rfl (by decide) ?_))
        | false =>
          have hof : onM O s p = false := by
            cases e : onM O s p with
            | false => rfl
            | true => rw [out_on hO e] at hon; cases hon
          rw [hof] at hfil
          repeat' (first
           | ((refine z_isdst 132 ?_; refine o_callx0 Try.func29 rfl rfl rfl (hfil _ _) (by decide) (by decide) ?_))
           | (refine s_is ?_; first
           | (refine c_free0 ⟨[110, 132], []⟩ [0, 1, 2, 3, 4, 5, 6, 8, 9, 10, 11, 12, 13, 14, 15, 16, 17, 7, 18, 19, 20, 21, 22, 23, 24, 25, 26, 27, 28, 29, 30, 31] (id := 13) mixed (by kernel_rfl) ?_)
           | (refine s_isagain ?_; first
           | (exact c_again (i + 1, M, O) ⟨(by dsimp only; omega), (by dsimp only; omega), hM, hO⟩ (by dsimp only; omega) ⟨rfl, rfl, rfl, rfl, trivial⟩ (fun w h => ((h.sel 7 [0, 1, 2, 3, 4, 6, 5] (by decide)).mask [true, true, true, true, true, true, false]))))
           | (refine s_isw ?_; first
           | refine c_seq ?_
           | refine c_region ?_
           | refine c_skip ?_
           | (refine s_iscond ?_; first
           | (refine c_false rfl (by first | with_reducible rfl | with_reducible assumption | ((with_reducible refine decide_eq_false ?_); first | with_reducible assumption | omega)) ?_))))
           | (refine z_isg1 ?_; first
           | (refine z_skip1 (by decide) rfl rfl (by first | with_reducible rfl | with_reducible assumption | ((with_reducible refine decide_eq_false ?_); first | with_reducible assumption | omega)) ?_)
           | (refine z_want1 rfl rfl (by first | (simp only [Bool.not_eq_true', decide_eq_false_iff_not]; omega) | (with_reducible assumption) | (rw [decide_eq_false] <;> (first | omega | with_reducible rfl)) | (rw [decide_eq_true] <;> (first | omega | with_reducible rfl)) | (simp; done) | (simp; omega)) ?_))
           | (refine z_isg0 ?_; first
           | (refine z_want0 rfl rfl (by first | with_reducible rfl | with_reducible assumption | ((with_reducible refine decide_eq_false ?_); first | with_reducible assumption | omega)) ?_))
           | (refine z_isnil ?_; first
           | refine z_mono0n ?_
           | refine z_list ?_)
           | (refine z_isop ?_; first
           | (refine z_isbin ?_; first
           | (refine z_isb .add ?_; first
           | refine o_add rfl rfl (by omega) (by omega) (by decide) ?_))
           | (refine z_isload ?_; first
           | (refine z_ld1 tabOk rfl rfl ?_; first
           | refine o_loadm tabOk rfl rfl rfl (by repeat' (first | exact List.mem_cons_self | apply List.mem_cons_of_mem)) (by first | rfl | rfl) (by decide) ?_))
           | (refine z_ispick ?_; first
           | (refine o_pick0 rfl (by first | with_reducible rfl | with_reducible assumption | ((with_reducible refine decide_eq_false ?_); first | with_reducible assumption | omega)) rfl (by decide) ?_)
           | (refine o_pick1 rfl (by first | (simp only [Bool.not_eq_true', decide_eq_false_iff_not]; omega) | (with_reducible assumption) | (rw [decide_eq_false] <;> (first | omega | with_reducible rfl)) | (rw [decide_eq_true] <;> (first | omega | with_reducible rfl)) | (simp; done) | (simp; omega)) rfl (by decide) ?_))
           | refine o_move rfl (by decide) ?_
           | refine o_assign rfl (by decide) ?_
           | refine o_not rfl (by decide) ?_
           | refine o_field0 tabOk rfl rfl rfl rfl rfl (by decide) ?_))
    · skip
      repeat' (first
       | (refine s_is ?_; first
       | (refine s_isret ?_; first
       | exact f_r1 rfl (res_t rfl) () trivial rfl (fun w h => ((h.sel 6 [5, 0, 1, 2, 3, 4] (by decide)).mask [true, false, false, false, false, false])))
       | (refine s_isw ?_; first
       | refine c_seq ?_
       | refine c_region ?_
       | refine c_ret ?_
       | refine c_exit ?_
       | (refine s_iscond ?_; first
       | (refine c_false rfl (by first | with_reducible rfl | with_reducible assumption | ((with_reducible refine decide_eq_false ?_); first | with_reducible assumption | omega)) ?_))))
       | (refine z_isg1 ?_; first
       | (refine z_want1 rfl rfl (by first | with_reducible rfl | with_reducible assumption | ((with_reducible refine decide_eq_true ?_); first | with_reducible rfl | with_reducible assumption | omega)) ?_))
       | (refine z_isnil ?_; first
       | refine z_list ?_)
       | (refine z_isop ?_; first
       | (refine z_isbin ?_; first
       | (refine z_isb .lss ?_; first
       | refine o_lt rfl rfl (by decide) ?_))
       | (refine z_iscall ?_; first
       | ((refine z_iscallf 31 ?_; refine o_fn rfl Try.func31 rfl rfl rfl (sawake_p) (by decide) ?_)))
       | (refine z_ispick ?_; first
       | (refine o_pick1 rfl (by first | with_reducible rfl | with_reducible assumption | ((with_reducible refine decide_eq_true ?_); first | with_reducible rfl | with_reducible assumption | omega)) rfl (by decide) ?_))
       | (refine z_isbi ?_; first
       | refine o_len tabOk rfl rfl (by decide) ?_)
       | refine o_move rfl (by decide) ?_
       | refine o_assign rfl (by decide) ?_))
  · skip
    repeat' (first
     | (refine s_is ?_; first
     | (refine s_isret ?_; first
     | exact f_r1 rfl (res_t rfl) () trivial rfl (fun w h => ((h.sel 6 [5, 0, 1, 2, 3, 4] (by decide)).mask [true, false, false, false, false, false])))
     | (refine s_isw ?_; first
     | refine c_seq ?_
     | refine c_region ?_
     | refine c_ret ?_
     | refine c_exit ?_
     | (refine s_iscond ?_; first
     | (refine c_false rfl (by first | with_reducible rfl | with_reducible assumption | ((with_reducible refine decide_eq_false ?_); first | with_reducible assumption | omega)) ?_))))
     | (refine z_isg1 ?_; first
     | (refine z_skip1 (by decide) rfl rfl (by first | with_reducible rfl | with_reducible assumption | ((with_reducible refine decide_eq_false ?_); first | with_reducible assumption | omega)) ?_))
     | (refine z_isnil ?_; first
     | refine z_list ?_)
     | (refine z_isop ?_; first
     | (refine z_isbin ?_; first
     | (refine z_isb .lss ?_; first
     | refine o_lt rfl rfl (by decide) ?_))
     | (refine z_iscall ?_; first
     | ((refine z_iscallf 31 ?_; refine o_fn rfl Try.func31 rfl rfl rfl (sawake_p) (by decide) ?_)))
     | (refine z_ispick ?_; first
     | (refine o_pick0 rfl (by first | with_reducible rfl | with_reducible assumption | ((with_reducible refine decide_eq_false ?_); first | with_reducible assumption | omega)) rfl (by decide) ?_))
     | (refine z_isbi ?_; first
     | refine o_len tabOk rfl rfl (by decide) ?_)
     | refine o_move rfl (by decide) ?_
     | refine o_assign rfl (by decide) ?_))
end Go.Proofs.Ytnckabgaichkkaa
