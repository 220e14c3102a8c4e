/-
Bind: behind Release.
-/
import Derived.Test.YtnckabgaichkkaaBx6
namespace Go.Proofs.Ytnckabgaichkkaa
set_option linter.unusedVariables false
set_option linter.unusedSimpArgs false
open Eng
/-- A deed. -/
structure Db where
  k : Int
  s : Int
  p : Int
  f : Int
  x : Bool
def Db.cs (d : Db) : List Value := [.int .i64 d.k, .int .i64 d.s, .int .i64 d.p, .int .i64 d.f, .bool d.x]
theorem db_len (d : Db) : d.cs.length = 5 := rfl
theorem db_at (D : List Db) {i : Nat} (d : Db) (h : D[i]? = some d) : ∀ (j : Nat) u, d.cs[j]? = some u → (D.flatMap Db.cs)[((i : Int)).toNat * 5 + j]? = some u := fun j u hu => by
  have hj : j < 5 := (List.getElem?_eq_some_iff.1 hu).1
  rw [Int.toNat_natCast, flat_get Db.cs 5 db_len D i j d h hj]; exact hu
theorem db_open {W : World} {r : List Value} (h : Is W (.struct [.int .i64, .int .i64, .int .i64, .int .i64, .bool]) r) : ∃ d : Db, r = d.cs ∧ True := by
  obtain ⟨x, y, z, u, s, rfl, h0, h1, h2, h3, h4⟩ := h.struct5
  obtain ⟨k, rfl, _⟩ := h0.int_inv
  obtain ⟨a, rfl, _⟩ := h1.int_inv
  obtain ⟨f, rfl, _⟩ := h2.int_inv
  obtain ⟨t, rfl, _⟩ := h3.int_inv
  obtain ⟨w, rfl⟩ := h4.bool_inv
  exact ⟨⟨k, a, f, t, w⟩, rfl, trivial⟩
/-- The cells of a table of nothing. -/
theorem xs_zero : (Try.prog.info? 31).map (·.zero) = some (some (.agg (xs noM).toArray)) := by kernel_rfl
theorem dls_app (M : Mp) (L : List (Int × Int)) (a c : Int) : dls M L a c = if (a, c) ∈ L then none else M a c := rfl
theorem dls_on {M : Mp} (hM : WM M) (f s p : Int) : onM (dls M (uss M f)) s p = (onM M s p && !decide (fM M s p = f)) := by
  have hm := uss_mem hM (f := f) (a := s) (c := p)
  cases ho : onM M s p with
  | false =>
    have hn := onM_none ho
    unfold onM
    rw [dls_app]
    split
    · rfl
    · rw [hn]; rfl
  | true =>
    have hne := onM_iff.1 ho
    by_cases hf : fM M s p = f
    · rw [decide_eq_true hf]
      unfold onM
      rw [dls_app, if_pos (hm.2 ⟨hne, hf⟩)]; rfl
    · rw [decide_eq_false hf]
      unfold onM
      rw [dls_app, if_neg fun e => hf (hm.1 e).2]
      unfold onM at ho
      rw [ho]; rfl
theorem dls_at {M : Mp} (hM : WM M) {f s p : Int} (hf : ¬ fM M s p = f) : fM (dls M (uss M f)) s p = fM M s p ∧ wM (dls M (uss M f)) s p = wM M s p := by
  have hm := uss_mem hM (f := f) (a := s) (c := p)
  unfold fM wM
  rw [dls_app, if_neg fun e => hf (hm.1 e).2]
  exact ⟨rfl, rfl⟩
theorem uss_gone {M : Mp} (hM : WM M) (f : Int) : uss (dls M (uss M f)) f = [] := by
  cases e : uss (dls M (uss M f)) f with
  | nil => rfl
  | cons x l =>
    obtain ⟨s, p⟩ := x
    have h1 : (s, p) ∈ uss (dls M (uss M f)) f := by rw [e]; exact List.mem_cons_self
    obtain ⟨h2, h3⟩ := (uss_mem (hM.dls _)).1 h1
    have h4 := onM_iff.2 h2
    rw [dls_on hM, Bool.and_eq_true, Bool.not_eq_true', decide_eq_false_iff_not] at h4
    rw [(dls_at hM h4.2).1] at h3
    exact absurd h3 h4.2
theorem usl_le (M : Mp) (f : Int) (n : Nat) (h : n ≤ 2048) : (prs (usf M f) n).length ≤ (uss M f).length := by
  have : ∀ k, (prs (usf M f) n).length ≤ (prs (usf M f) (n + k)).length := by
    intro k
    induction k with
    | zero => exact Nat.le_refl _
    | succ k ih =>
      cases hg : usf M f (n + k) with
      | true => rw [show n + (k + 1) = n + k + 1 from rfl, prs_yes hg, List.length_append]; omega
      | false => rw [show n + (k + 1) = n + k + 1 from rfl, prs_no hg]; exact ih
  have h2 := this (2048 - n)
  rw [show n + (2048 - n) = 2048 by omega] at h2
  exact h2
attribute [local irreducible] Eng.Hold Eng.Z Eng.S Eng.cells Eng.old Eng.own Eng.mpc Eng.rgc Eng.onM Eng.fM Eng.wM Eng.upM Eng.delM
attribute [local irreducible] uss pcs pgs ilS dls row xs dmf rmM aM1 aM2 eqB usf
set_option maxHeartbeats 8000000 in
theorem bindGone (W : World) (f : Int) (A0 : Option Addr) (c0 : Nat) (D : List Db) (hrd0 : Rds [old W] A0 (D.flatMap Db.cs)) (hx : D.length ≤ 9223372036854775807) :
    Does Try.prog 4 [.slice A0 D.length c0, .int .i64 f] [old W] (fun _ : Unit => True) (fun _ => .bool true) (fun _ => [old W]) := by
  intro w hw
  have hne0 : 0 < D.length → A0 ≠ none := fun h => hrd0.ne hw (by rw [flat_len Db.cs 5 db_len]; omega)
  refine f_enter Try.func4 rfl Try.ntmps4 rfl hw ?_
  repeat' (first
   | ((refine z_isdst 14 ?_; refine o_calla Try.func10 rfl rfl rfl (bnew_c _) (by decide) fun x _ => ?_; obtain ⟨b, m⟩ := x; dsimp only))
   | ((refine z_isdst 15 ?_; refine o_build0 (t := 31) (v := .agg (xs noM).toArray) (fun _ => by kernel_rfl) (by decide) ?_))
   | ((refine z_isdst 16 ?_; refine o_boxa (vs := xs noM) rfl rfl (by decide) fun gt => ?_))
   | (refine s_is ?_; first
   | (refine c_join (x := .seq (.region 3 _ _) _) (X := Mp) (fun M => WM M) (fun M => [(1, .int .i64 f), (5, .pointer (some ⟨b, 0, none⟩)), (6, .pointer (some ⟨gt, 0, none⟩))]) (fun M => cells b 78 [.map (some m)] :: mpc m M :: cells gt 31 (xs M) :: [old W]) (hold ?_) (fun M hM => hold ?_))
   | (refine s_isw ?_; first
   | refine c_seq ?_
   | refine c_region ?_))
   | (refine z_isnil ?_; first
   | refine z_list ?_)
   | (refine z_isop ?_; first
   | refine o_assign rfl (by decide) ?_))
  · refine Hold.go ?_
    repeat' (first
     | (refine s_is ?_; first
     | (refine s_isw ?_; first
     | (refine s_isloop ?_; first
     | ((refine c_loop (X := Nat × Mp) (fun y => y.1 ≤ 40 ∧ y.1 ≤ D.length ∧ WM y.2) (fun y => [(0, .slice A0 D.length c0), (1, .int .i64 f), (5, .pointer (some ⟨b, 0, none⟩)), (6, .pointer (some ⟨gt, 0, none⟩)), (7, .int .i64 y.1)]) (fun y => cells b 78 [.map (some m)] :: mpc m y.2 :: cells gt 31 (xs y.2) :: [old W]) (fun y => 40 - y.1) (0, noM) ⟨Nat.zero_le _, Nat.zero_le _, wm_no⟩ ⟨rfl, rfl, rfl, rfl, rfl, trivial⟩ (fun w h => ((h.sel 4 [1, 2, 0, 3] (by decide)).mask [true, true, true, true])) (fun y hy => ?_); obtain ⟨i, M⟩ := y; obtain ⟨hi, hi2, hM⟩ := hy; dsimp only at hi hi2 hM ⊢; refine hold ?_)))
     | refine c_seq ?_
     | refine c_block ?_
     | refine c_region ?_))
     | (refine z_isnil ?_; first
     | refine z_list ?_)
     | (refine z_isop ?_; first
     | refine o_assign rfl (by decide) ?_))
    refine Hold.go ?_
    by_cases hlt : i < D.length
    · by_cases hlt2 : i < 40
      · obtain ⟨d, hd⟩ : ∃ d, D[i]? = some d := ⟨D[i], List.getElem?_eq_getElem hlt⟩
        repeat' (first
         | ((refine z_isdst 32 ?_; refine o_loadsw tabOk (hrd0.sub (List.sublist_append_right [_, _, _] _)) rfl rfl rfl (es := d.cs) (db_len _) (by rw [db_len]; decide) (db_at D d hd) (by decide) ?_))
         | ((refine z_isdst 33 ?_; refine o_calla Try.func11 rfl rfl rfl (bdoes_c b m gt M hM d.k d.s d.p d.f d.x _) (by decide) fun M' hM' => ?_))
         | (refine s_is ?_; first
         | (refine s_isagain ?_; first
         | (exact c_again (i + 1, M') ⟨(by dsimp only; omega), (by dsimp only; omega), hM'⟩ (by dsimp only; omega) ⟨rfl, rfl, rfl, rfl, rfl, trivial⟩ (fun w h => h)))
         | (refine s_isw ?_; first
         | refine c_seq ?_
         | refine c_block ?_
         | refine c_region ?_
         | refine c_skip ?_
         | (refine s_iscond ?_; first
         | (refine c_true rfl (by first | with_reducible rfl | with_reducible assumption | ((with_reducible refine decide_eq_true ?_); first | with_reducible rfl | with_reducible assumption | omega)) ?_))))
         | (refine z_isg1 ?_; first
         | (refine z_want1 rfl rfl (by first | with_reducible rfl | with_reducible assumption | ((with_reducible refine decide_eq_true ?_); first | with_reducible rfl | with_reducible assumption | omega)) ?_))
         | (refine z_isnil ?_; first
         | refine z_list ?_)
         | (refine z_isop ?_; first
         | refine o_indexsn tabOk (hne0 (by omega)) rfl rfl rfl rfl (by omega) (by omega) (by decide) ?_
         | (refine z_isbin ?_; first
         | (refine z_isb .add ?_; first
         | refine o_add rfl rfl (by omega) (by omega) (by decide) ?_)
         | (refine z_isb .lss ?_; first
         | refine o_lt rfl rfl (by decide) ?_))
         | (refine z_ispick ?_; first
         | (refine o_pick1 rfl (by first | with_reducible rfl | with_reducible assumption | ((with_reducible refine decide_eq_true ?_); first | with_reducible rfl | with_reducible assumption | omega)) rfl (by decide) ?_))
         | (refine z_isbi ?_; first
         | refine o_len tabOk rfl rfl (by decide) ?_)
         | refine o_move rfl (by decide) ?_
         | refine o_assign rfl (by decide) ?_))
      · skip
        repeat' (first
         | (refine s_is ?_; first
         | (refine s_ismeet ?_; first
         | exact c_meet M hM ⟨rfl, rfl, rfl, trivial⟩ (fun w h => h))
         | (refine s_isw ?_; first
         | refine c_seq ?_
         | refine c_region ?_
         | refine c_exit ?_
         | (refine s_iscond ?_; first
         | (refine c_false rfl (by first | with_reducible rfl | with_reducible assumption | ((with_reducible refine decide_eq_false ?_); first | with_reducible assumption | omega)) ?_))))
         | (refine z_isg1 ?_; first
         | (refine z_want1 rfl rfl (by first | with_reducible rfl | with_reducible assumption | ((with_reducible refine decide_eq_true ?_); first | with_reducible rfl | with_reducible assumption | omega)) ?_))
         | (refine z_isnil ?_; first
         | refine z_list ?_)
         | (refine z_isop ?_; first
         | (refine z_isbin ?_; first
         | (refine z_isb .lss ?_; first
         | refine o_lt rfl rfl (by decide) ?_))
         | (refine z_ispick ?_; first
         | (refine o_pick1 rfl (by first | with_reducible rfl | with_reducible assumption | ((with_reducible refine decide_eq_true ?_); first | with_reducible rfl | with_reducible assumption | omega)) rfl (by decide) ?_))
         | (refine z_isbi ?_; first
         | refine o_len tabOk rfl rfl (by decide) ?_)
         | refine o_move rfl (by decide) ?_))
    · skip
      repeat' (first
       | (refine s_is ?_; first
       | (refine s_ismeet ?_; first
       | exact c_meet M hM ⟨rfl, rfl, rfl, trivial⟩ (fun w h => h))
       | (refine s_isw ?_; first
       | refine c_seq ?_
       | refine c_region ?_
       | refine c_exit ?_
       | (refine s_iscond ?_; first
       | (refine c_false rfl (by first | with_reducible rfl | with_reducible assumption | ((with_reducible refine decide_eq_false ?_); first | with_reducible assumption | omega)) ?_))))
       | (refine z_isg1 ?_; first
       | (refine z_skip1 (by decide) rfl rfl (by first | with_reducible rfl | with_reducible assumption | ((with_reducible refine decide_eq_false ?_); first | with_reducible assumption | omega)) ?_))
       | (refine z_isnil ?_; first
       | refine z_list ?_)
       | (refine z_isop ?_; first
       | (refine z_isbin ?_; first
       | (refine z_isb .lss ?_; first
       | refine o_lt rfl rfl (by decide) ?_))
       | (refine z_ispick ?_; first
       | (refine o_pick0 rfl (by first | with_reducible rfl | with_reducible assumption | ((with_reducible refine decide_eq_false ?_); first | with_reducible assumption | omega)) rfl (by decide) ?_))
       | (refine z_isbi ?_; first
       | refine o_len tabOk rfl rfl (by decide) ?_)
       | refine o_move rfl (by decide) ?_))
  · refine Hold.go ?_
    have hle := uss_le M f
    have hus := buses_c b m (dls M (uss M f)) (hM.dls _) f
    have hrl := brelease_c b m (dls M (uss M f)) (hM.dls _) f
    rw [uss_gone hM] at hus hrl
    repeat' (first
     | ((refine z_isdst 36 ?_; refine o_calla Try.func21 rfl rfl rfl (brelease_c b m M hM f _) (by decide) fun _ _ => ?_))
     | (refine s_is ?_; first
     | (refine s_isw ?_; first
     | (refine s_isloop ?_; first
     | ((refine c_loop (X := Nat) (fun s => s ≤ 64) (fun s => [(1, .int .i64 f), (5, .pointer (some ⟨b, 0, none⟩)), (6, .pointer (some ⟨gt, 0, none⟩)), (8, .int .i64 ((uss M f).length - (prs (usf M f) (s * 32)).length)), (9, .int .i64 s)]) (fun _ => cells b 78 [.map (some m)] :: mpc m (dls M (uss M f)) :: cells gt 31 (xs M) :: [old W]) (fun s => 64 - s) 0 (Nat.zero_le _) ⟨rfl, rfl, rfl, congrArg some (congrArg (Value.int .i64) (show ((uss M f).length : Int) = (uss M f).length - ((prs (usf M f) (0 * 32)).length : Nat) by rw [show (prs (usf M f) (0 * 32)).length = 0 from rfl]; omega)), rfl, trivial⟩ (fun w h => h) (fun s hs0 => ?_); refine hold ?_)))
     | refine c_seq ?_
     | refine c_block ?_
     | refine c_region ?_))
     | (refine z_isnil ?_; first
     | refine z_list ?_)
     | (refine z_isop ?_; first
     | refine o_move rfl (by decide) ?_
     | refine o_assign rfl (by decide) ?_))
    refine Hold.go ?_
    have hpl0 := usl_le M f (s * 32)
    by_cases hs : s < 64
    · skip
      repeat' (first
       | (refine s_is ?_; first
       | (refine s_isw ?_; first
       | (refine s_isloop ?_; first
       | ((refine c_loop (X := Nat) (fun p => p ≤ 32) (fun p => [(1, .int .i64 f), (5, .pointer (some ⟨b, 0, none⟩)), (6, .pointer (some ⟨gt, 0, none⟩)), (8, .int .i64 ((uss M f).length - (prs (usf M f) (s * 32 + p)).length)), (9, .int .i64 s), (10, .int .i64 p)]) (fun _ => cells b 78 [.map (some m)] :: mpc m (dls M (uss M f)) :: cells gt 31 (xs M) :: [old W]) (fun p => 32 - p) 0 (Nat.zero_le _) ⟨rfl, rfl, rfl, rfl, rfl, rfl, trivial⟩ (fun w h => h) (fun p hp0 => ?_); refine hold ?_)))
       | refine c_seq ?_
       | refine c_block ?_
       | refine c_region ?_
       | refine c_skip ?_
       | (refine s_iscond ?_; first
       | (refine c_true rfl (by first | with_reducible rfl | with_reducible assumption | ((with_reducible refine decide_eq_true ?_); first | with_reducible rfl | with_reducible assumption | omega)) ?_))))
       | (refine z_isnil ?_; first
       | refine z_list ?_)
       | (refine z_isop ?_; first
       | (refine z_isbin ?_; first
       | (refine z_isb .lss ?_; first
       | refine o_lt rfl rfl (by decide) ?_))
       | refine o_move rfl (by decide) ?_
       | refine o_assign rfl (by decide) ?_))
      refine Hold.go ?_
      by_cases hp : p < 32
      · have hpl := usl_le M f (s * 32 + p) (by omega)
        have husf := usf_sp (M := M) (f := f) (s := s) hp
        have hget := fun fr => bget_c b m (dls M (uss M f)) s p fr
        have hxg := fun fr hrd => xget_c gt M hM s p fr hrd
        have hon := dls_on hM f s p
        have hat := dls_at hM (f := f) (s := s) (p := p)
        cases ho : onM M s p with
        | true =>
          by_cases hf : fM M s p = f
          · rw [ho, decide_eq_true hf] at husf hon
            have hn := prs_yes husf
            rw [hon] at hget
            rw [ho] at hxg
            repeat' (first
             | ((refine z_isdst 49 ?_; refine o_calla Try.func12 rfl rfl rfl (hget _) (by decide) fun _ _ => ?_))
             | ((refine z_isdst 55 ?_; refine o_callr rfl Try.func13 rfl rfl rfl (hxg _ (cells_rds 3 rfl)) (by decide) ?_))
             | ((refine z_isdst 11 ?_; refine o_alloca (e := 36) (vs := [.int .i64 0, .bool false]) rfl (by kernel_rfl) (by decide) fun g11 => ?_))
             | ((refine z_isdst 13 ?_; refine o_alloca (e := 27) (vs := [.bool false, .int .i64 0, .bool false]) rfl (by kernel_rfl) (by decide) fun g13 => ?_))
             | (refine s_is ?_; first
             | (refine s_isagain ?_; first
             | (exact c_again (p + 1) (by omega) (by omega) ⟨rfl, rfl, rfl, (by rw [show s * 32 + (p + 1) = s * 32 + p + 1 from rfl, hn, List.length_append]; exact congrArg some (congrArg (Value.int .i64) (by simp; omega))), rfl, rfl, trivial⟩ (fun w h => ((h.sel 5 [2, 3, 4, 0, 1] (by decide)).mask [true, true, true, false, false]))))
             | (refine s_isw ?_; first
             | refine c_seq ?_
             | refine c_block ?_
             | refine c_region ?_
             | refine c_skip ?_
             | (refine s_iscond ?_; first
             | (refine c_true rfl (by first | with_reducible rfl | with_reducible assumption | ((with_reducible refine decide_eq_true ?_); first | with_reducible rfl | with_reducible assumption | omega)) ?_)
             | (refine c_false rfl (by first | with_reducible rfl | with_reducible assumption | ((with_reducible refine decide_eq_false ?_); first | with_reducible assumption | omega)) ?_))))
             | (refine z_isg1 ?_; first
             | refine z_skipu (by decide) rfl rfl ?_
             | (refine z_want1 rfl rfl (by first | with_reducible rfl | with_reducible assumption | ((with_reducible refine decide_eq_true ?_); first | with_reducible rfl | with_reducible assumption | omega)) ?_)
             | (refine z_skip1 (by decide) rfl rfl (by first | (simp only [Bool.not_eq_false', decide_eq_true_eq]; omega) | (with_reducible assumption) | (rw [decide_eq_false] <;> (first | omega | with_reducible rfl)) | (rw [decide_eq_true] <;> (first | omega | with_reducible rfl)) | (simp; done) | (simp; omega)) ?_))
             | (refine z_isg0 ?_; first
             | refine z_skipu (by decide) rfl rfl ?_
             | (refine z_want0 rfl rfl (by first | (simp only [Bool.not_eq_false', decide_eq_true_eq]; omega) | (with_reducible assumption) | (rw [decide_eq_false] <;> (first | omega | with_reducible rfl)) | (rw [decide_eq_true] <;> (first | omega | with_reducible rfl)) | (simp; done) | (simp; omega)) ?_))
             | (refine z_isnil ?_; first
             | refine z_list ?_)
             | (refine z_isop ?_; first
             | (refine z_isbin ?_; first
             | (refine z_isb .add ?_; first
             | refine o_add rfl rfl (by omega) (by omega) (by decide) ?_)
             | (refine z_isb .sub ?_; first
             | refine o_sub rfl rfl (by omega) (by omega) (by decide) ?_)
             | (refine z_isb .eql ?_; first
             | refine o_eq rfl rfl (by decide) ?_)
             | (refine z_isb .neq ?_; first
             | refine o_bne tabOk rfl rfl rfl (by decide) ?_)
             | (refine z_isb .lss ?_; first
             | refine o_lt rfl rfl (by decide) ?_))
             | (refine z_isload ?_; first
             | (refine z_ld1 tabOk rfl rfl ?_; first
             | refine o_loadm tabOk rfl rfl rfl (by repeat' (first | exact List.mem_cons_self | apply List.mem_cons_of_mem)) (by first | rfl | rfl) (by decide) ?_))
             | (refine z_isstore ?_; first
             | (refine z_stw rfl ?_; first
             | ((refine z_sti 0 rfl rfl ?_; refine o_storeb0 rfl tabOk rfl rfl rfl (by first | rfl | rfl) (by first | rfl | rfl) (by first | rfl | rfl) ?_)))
             | (refine z_st1 rfl rfl ?_; first
             | refine o_store rfl tabOk rfl rfl rfl rfl rfl (by first | rfl | rfl) (by first | rfl) ?_))
             | (refine z_ispick ?_; first
             | (refine o_pick1 rfl (by first | with_reducible rfl | with_reducible assumption | ((with_reducible refine decide_eq_true ?_); first | with_reducible rfl | with_reducible assumption | omega)) rfl (by decide) ?_)
             | (refine o_pick0 rfl (by first | (simp only [Bool.not_eq_false', decide_eq_true_eq]; omega) | (with_reducible assumption) | (rw [decide_eq_false] <;> (first | omega | with_reducible rfl)) | (rw [decide_eq_true] <;> (first | omega | with_reducible rfl)) | (simp; done) | (simp; omega)) rfl (by decide) ?_))
             | refine o_move rfl (by decide) ?_
             | refine o_assign rfl (by decide) ?_
             | refine o_extract rfl rfl (by decide) ?_
             | refine o_field0 tabOk rfl rfl rfl rfl rfl (by decide) ?_))
          · rw [ho, decide_eq_false hf] at husf hon
            have hn := prs_no husf
            rw [hon, (hat hf).1, (hat hf).2] at hget
            rw [ho] at hxg
            repeat' (first
             | ((refine z_isdst 49 ?_; refine o_calla Try.func12 rfl rfl rfl (hget _) (by decide) fun _ _ => ?_))
             | ((refine z_isdst 55 ?_; refine o_callr rfl Try.func13 rfl rfl rfl (hxg _ (cells_rds 3 rfl)) (by decide) ?_))
             | ((refine z_isdst 11 ?_; refine o_alloca (e := 36) (vs := [.int .i64 0, .bool false]) rfl (by kernel_rfl) (by decide) fun g11 => ?_))
             | ((refine z_isdst 13 ?_; refine o_alloca (e := 27) (vs := [.bool false, .int .i64 0, .bool false]) rfl (by kernel_rfl) (by decide) fun g13 => ?_))
             | (refine s_is ?_; first
             | (refine s_isagain ?_; first
             | (exact c_again (p + 1) (by omega) (by omega) ⟨rfl, rfl, rfl, (by rw [show s * 32 + (p + 1) = s * 32 + p + 1 from rfl, hn]; rfl), rfl, rfl, trivial⟩ (fun w h => ((h.sel 5 [2, 3, 4, 0, 1] (by decide)).mask [true, true, true, false, false]))))
             | (refine s_isw ?_; first
             | refine c_seq ?_
             | refine c_block ?_
             | refine c_region ?_
             | refine c_skip ?_
             | (refine s_iscond ?_; first
             | (refine c_true rfl (by first | with_reducible rfl | with_reducible assumption | ((with_reducible refine decide_eq_true ?_); first | with_reducible rfl | with_reducible assumption | omega)) ?_)
             | (refine c_false rfl (by first | with_reducible rfl | with_reducible assumption | ((with_reducible refine decide_eq_false ?_); first | with_reducible assumption | omega)) ?_)
             | (refine c_false rfl (by first | (simp only [Bool.not_eq_false', decide_eq_true_eq]; omega) | (with_reducible assumption) | (rw [decide_eq_false] <;> (first | omega | with_reducible rfl)) | (rw [decide_eq_true] <;> (first | omega | with_reducible rfl)) | (simp; done) | (simp; omega)) ?_))))
             | (refine z_isg1 ?_; first
             | (refine z_want1 rfl rfl (by first | with_reducible rfl | with_reducible assumption | ((with_reducible refine decide_eq_true ?_); first | with_reducible rfl | with_reducible assumption | omega)) ?_)
             | (refine z_want1 rfl rfl (by first | (simp only [Bool.not_eq_true', decide_eq_false_iff_not]; omega) | (with_reducible assumption) | (rw [decide_eq_false] <;> (first | omega | with_reducible rfl)) | (rw [decide_eq_true] <;> (first | omega | with_reducible rfl)) | (simp; done) | (simp; omega)) ?_))
             | (refine z_isg0 ?_; first
             | (refine z_want0 rfl rfl (by first | with_reducible rfl | with_reducible assumption | ((with_reducible refine decide_eq_false ?_); first | with_reducible assumption | omega)) ?_)
             | (refine z_want0 rfl rfl (by first | (simp only [Bool.not_eq_false', decide_eq_true_eq]; omega) | (with_reducible assumption) | (rw [decide_eq_false] <;> (first | omega | with_reducible rfl)) | (rw [decide_eq_true] <;> (first | omega | with_reducible rfl)) | (simp; done) | (simp; omega)) ?_))
             | (refine z_isnil ?_; first
             | refine z_list ?_)
             | (refine z_isop ?_; first
             | (refine z_isbin ?_; first
             | (refine z_isb .add ?_; first
             | refine o_add rfl rfl (by omega) (by omega) (by decide) ?_)
             | (refine z_isb .eql ?_; first
             | refine o_eq rfl rfl (by decide) ?_)
             | (refine z_isb .neq ?_; first
             | refine o_ne rfl rfl (by decide) ?_
             | refine o_bne tabOk rfl rfl rfl (by decide) ?_)
             | (refine z_isb .lss ?_; first
             | refine o_lt rfl rfl (by decide) ?_))
             | (refine z_isload ?_; first
             | (refine z_ld1 tabOk rfl rfl ?_; first
             | refine o_loadm tabOk rfl rfl rfl (by repeat' (first | exact List.mem_cons_self | apply List.mem_cons_of_mem)) (by first | rfl | rfl) (by decide) ?_))
             | (refine z_isstore ?_; first
             | (refine z_stw rfl ?_; first
             | ((refine z_sti 0 rfl rfl ?_; refine o_storeb0 rfl tabOk rfl rfl rfl (by first | rfl | rfl) (by first | rfl | rfl) (by first | rfl | rfl) ?_))))
             | (refine z_ispick ?_; first
             | (refine o_pick1 rfl (by first | with_reducible rfl | with_reducible assumption | ((with_reducible refine decide_eq_true ?_); first | with_reducible rfl | with_reducible assumption | omega)) rfl (by decide) ?_)
             | (refine o_pick0 rfl (by first | with_reducible rfl | with_reducible assumption | ((with_reducible refine decide_eq_false ?_); first | with_reducible assumption | omega)) rfl (by decide) ?_)
             | (refine o_pick1 rfl (by first | (simp only [Bool.not_eq_true', decide_eq_false_iff_not]; omega) | (with_reducible assumption) | (rw [decide_eq_false] <;> (first | omega | with_reducible rfl)) | (rw [decide_eq_true] <;> (first | omega | with_reducible rfl)) | (simp; done) | (simp; omega)) rfl (by decide) ?_)
             | (refine o_pick0 rfl (by first | (simp only [Bool.not_eq_false', decide_eq_true_eq]; omega) | (with_reducible assumption) | (rw [decide_eq_false] <;> (first | omega | with_reducible rfl)) | (rw [decide_eq_true] <;> (first | omega | with_reducible rfl)) | (simp; done) | (simp; omega)) rfl (by decide) ?_))
             | refine o_move rfl (by decide) ?_
             | refine o_assign rfl (by decide) ?_
             | refine o_extract rfl rfl (by decide) ?_
             | refine o_field0 tabOk rfl rfl rfl rfl rfl (by decide) ?_))
        | false =>
          rw [ho, Bool.false_and] at husf hon
          have hn := prs_no husf
          rw [hon] at hget
          rw [ho] at hxg
          repeat' (first
           | ((refine z_isdst 49 ?_; refine o_calla Try.func12 rfl rfl rfl (hget _) (by decide) fun _ _ => ?_))
           | ((refine z_isdst 55 ?_; refine o_callr rfl Try.func13 rfl rfl rfl (hxg _ (cells_rds 3 rfl)) (by decide) ?_))
           | ((refine z_isdst 11 ?_; refine o_alloca (e := 36) (vs := [.int .i64 0, .bool false]) rfl (by kernel_rfl) (by decide) fun g11 => ?_))
           | ((refine z_isdst 13 ?_; refine o_alloca (e := 27) (vs := [.bool false, .int .i64 0, .bool false]) rfl (by kernel_rfl) (by decide) fun g13 => ?_))
           | (refine s_is ?_; first
           | (refine s_isagain ?_; first
           | (exact c_again (p + 1) (by omega) (by omega) ⟨rfl, rfl, rfl, (by rw [show s * 32 + (p + 1) = s * 32 + p + 1 from rfl, hn]; rfl), rfl, rfl, trivial⟩ (fun w h => ((h.sel 5 [2, 3, 4, 0, 1] (by decide)).mask [true, true, true, false, false]))))
           | (refine s_isw ?_; first
           | refine c_seq ?_
           | refine c_block ?_
           | refine c_region ?_
           | refine c_skip ?_
           | (refine s_iscond ?_; first
           | (refine c_true rfl (by first | with_reducible rfl | with_reducible assumption | ((with_reducible refine decide_eq_true ?_); first | with_reducible rfl | with_reducible assumption | omega)) ?_)
           | (refine c_false rfl (by first | with_reducible rfl | with_reducible assumption | ((with_reducible refine decide_eq_false ?_); first | with_reducible assumption | omega)) ?_))))
           | (refine z_isg1 ?_; first
           | refine z_skipu (by decide) rfl rfl ?_
           | (refine z_skip1 (by decide) rfl rfl (by first | with_reducible rfl | with_reducible assumption | ((with_reducible refine decide_eq_false ?_); first | with_reducible assumption | omega)) ?_))
           | (refine z_isg0 ?_; first
           | refine z_skipu (by decide) rfl rfl ?_
           | (refine z_want0 rfl rfl (by first | (simp only [Bool.not_eq_false', decide_eq_true_eq]; omega) | (with_reducible assumption) | (rw [decide_eq_false] <;> (first | omega | with_reducible rfl)) | (rw [decide_eq_true] <;> (first | omega | with_reducible rfl)) | (simp; done) | (simp; omega)) ?_))
           | (refine z_isnil ?_; first
           | refine z_list ?_)
           | (refine z_isop ?_; first
           | (refine z_isbin ?_; first
           | (refine z_isb .add ?_; first
           | refine o_add rfl rfl (by omega) (by omega) (by decide) ?_)
           | (refine z_isb .neq ?_; first
           | refine o_bne tabOk rfl rfl rfl (by decide) ?_)
           | (refine z_isb .lss ?_; first
           | refine o_lt rfl rfl (by decide) ?_))
           | (refine z_isload ?_; first
           | (refine z_ld1 tabOk rfl rfl ?_; first
           | refine o_loadm tabOk rfl rfl rfl (by repeat' (first | exact List.mem_cons_self | apply List.mem_cons_of_mem)) (by first | rfl | rfl) (by decide) ?_))
           | (refine z_isstore ?_; first
           | (refine z_stw rfl ?_; first
           | ((refine z_sti 0 rfl rfl ?_; refine o_storeb0 rfl tabOk rfl rfl rfl (by first | rfl | rfl) (by first | rfl | rfl) (by first | rfl | rfl) ?_))))
           | (refine z_ispick ?_; first
           | (refine o_pick0 rfl (by first | with_reducible rfl | with_reducible assumption | ((with_reducible refine decide_eq_false ?_); first | with_reducible assumption | omega)) rfl (by decide) ?_)
           | (refine o_pick0 rfl (by first | (simp only [Bool.not_eq_false', decide_eq_true_eq]; omega) | (with_reducible assumption) | (rw [decide_eq_false] <;> (first | omega | with_reducible rfl)) | (rw [decide_eq_true] <;> (first | omega | with_reducible rfl)) | (simp; done) | (simp; omega)) rfl (by decide) ?_))
           | refine o_move rfl (by decide) ?_
           | refine o_assign rfl (by decide) ?_
           | refine o_extract rfl rfl (by decide) ?_
           | refine o_field0 tabOk rfl rfl rfl rfl rfl (by decide) ?_))
      · obtain rfl : p = 32 := by omega
        repeat' (first
         | (refine s_is ?_; first
         | (refine s_isagain ?_; first
         | (exact c_again (s + 1) (by omega) (by omega) ⟨rfl, rfl, rfl, (by rw [show (s + 1) * 32 = s * 32 + 32 by omega]; rfl), rfl, trivial⟩ (fun w h => h)))
         | (refine s_isw ?_; first
         | refine c_seq ?_
         | refine c_region ?_
         | refine c_exit ?_
         | (refine s_iscond ?_; first
         | (refine c_false rfl (by first | with_reducible rfl | with_reducible assumption | ((with_reducible refine decide_eq_false ?_); first | with_reducible assumption | omega)) ?_))))
         | (refine z_isnil ?_; first
         | refine z_list ?_)
         | (refine z_isop ?_; first
         | (refine z_isbin ?_; first
         | (refine z_isb .add ?_; first
         | refine o_add rfl rfl (by omega) (by omega) (by decide) ?_)
         | (refine z_isb .lss ?_; first
         | refine o_lt rfl rfl (by decide) ?_))
         | refine o_move rfl (by decide) ?_
         | refine o_assign rfl (by decide) ?_))
    · obtain rfl : s = 64 := by omega
      have hz : ((uss M f).length : Int) - ((prs (usf M f) (64 * 32)).length : Nat) = 0 := by rw [uss_prs]; omega
      rw [hz]
      repeat' (first
       | ((refine z_isdst 93 ?_; refine o_calla Try.func17 rfl rfl rfl (hus _) (by decide) fun x _ => ?_))
       | ((refine z_isdst 100 ?_; refine z_sel rfl 3 [1, 2, 0] (by decide) ?_; refine o_calla Try.func21 rfl rfl rfl (hrl _) (by decide) fun _ _ => ?_))
       | (refine s_is ?_; first
       | (refine s_isret ?_; first
       | (exact f_r1 rfl (res_t rfl) () trivial rfl (fun w h => by simp only [fronts, moveF, selF, sel1, nth, List.drop_succ_cons, List.drop_zero, List.eraseIdx_cons_zero, List.eraseIdx_cons_succ, maskL, List.cons_append, List.nil_append, List.append_eq, List.set_cons_zero, List.set_cons_succ] at h; exact ((h.sel 5 [4, 0, 1, 2, 3] (by decide)).mask [true, false, false, false, false]))))
       | (refine s_isw ?_; first
       | refine c_seq ?_
       | refine c_region ?_
       | refine c_ret ?_
       | refine c_exit ?_
       | (refine s_iscond ?_; first
       | (refine c_false rfl (by first | with_reducible rfl | with_reducible assumption | ((with_reducible refine decide_eq_false ?_); first | with_reducible assumption | omega)) ?_))))
       | (refine z_isg1 ?_; first
       | (refine z_want1 rfl rfl (by first | with_reducible rfl | with_reducible assumption | ((with_reducible refine decide_eq_true ?_); first | with_reducible rfl | with_reducible assumption | omega)) ?_)
       | (refine z_want1 rfl rfl (by first | (simp only [Bool.not_eq_true', decide_eq_false_iff_not]; omega) | (with_reducible assumption) | (rw [decide_eq_false] <;> (first | omega | with_reducible rfl)) | (rw [decide_eq_true] <;> (first | omega | with_reducible rfl)) | (simp; done) | (simp; omega)) ?_))
       | (refine z_isnil ?_; first
       | refine z_list ?_)
       | (refine z_isop ?_; first
       | (refine z_isbin ?_; first
       | (refine z_isb .eql ?_; first
       | refine o_eq rfl rfl (by decide) ?_)
       | (refine z_isb .lss ?_; first
       | refine o_lt rfl rfl (by decide) ?_))
       | (refine z_iscall ?_; first
       | ((refine z_iscallf 20 ?_; refine o_fn rfl Try.func20 rfl rfl rfl (bawake_p) (by decide) ?_)))
       | (refine z_ispick ?_; first
       | (refine o_pick1 rfl (by first | with_reducible rfl | with_reducible assumption | ((with_reducible refine decide_eq_true ?_); first | with_reducible rfl | with_reducible assumption | omega)) rfl (by decide) ?_)
       | (refine o_pick1 rfl (by first | (simp only [Bool.not_eq_true', decide_eq_false_iff_not]; omega) | (with_reducible assumption) | (rw [decide_eq_false] <;> (first | omega | with_reducible rfl)) | (rw [decide_eq_true] <;> (first | omega | with_reducible rfl)) | (simp; done) | (simp; omega)) rfl (by decide) ?_))
       | (refine z_isbi ?_; first
       | refine o_len tabOk rfl rfl (by decide) ?_)
       | refine o_move rfl (by decide) ?_
       | refine o_assign rfl (by decide) ?_))
end Go.Proofs.Ytnckabgaichkkaa
