/-
Bind: the table is the document's at each moment.
-/
import Derived.Test.YtnckabgaichkkaaBx7
namespace Go.Proofs.Ytnckabgaichkkaa
set_option linter.unusedVariables false
set_option linter.unusedSimpArgs false
open Eng
def onf (M : Mp) : Nat → Bool := fun k => onM M ((k / 32 : Nat) : Int) ((k % 32 : Nat) : Int)
theorem onf_row (M : Mp) (s : Nat) : ∀ p, p ≤ 32 → (al (onf M) (s * 32 + p)).length = (al (onf M) (s * 32)).length + (al (pgf M s) p).length
  | 0, _ => rfl
  | p + 1, h => by
    have ih := onf_row M s p (by omega)
    have e : onf M (s * 32 + p) = pgf M s p := by
      unfold onf pgf
      rw [show (s * 32 + p) / 32 = s by omega, show (s * 32 + p) % 32 = p by omega]
    cases ho : pgf M s p with
    | true => rw [show s * 32 + (p + 1) = s * 32 + p + 1 from rfl, al_yes (e.trans ho), al_yes ho, List.length_append, List.length_append, ih]; simp only [List.length_singleton]; omega
    | false => rw [show s * 32 + (p + 1) = s * 32 + p + 1 from rfl, al_no (e.trans ho), al_no ho, ih]
theorem onf_add (M : Mp) (s : Nat) : (al (onf M) ((s + 1) * 32)).length = (al (onf M) (s * 32)).length + (pgs M s).length := by
  rw [show (s + 1) * 32 = s * 32 + 32 by omega, onf_row M s 32 (Nat.le_refl _)]; rfl
theorem onl_mem {M : Mp} (hM : WM M) (s p : Int) : (s, p) ∈ prs (onf M) 2048 ↔ M s p ≠ none := by
  rw [prs_mem]
  constructor
  · rintro ⟨h0, h1, h2, h3, h4⟩
    unfold onf at h4
    rw [show (s * 32 + p).toNat = s.toNat * 32 + p.toNat by omega, show (s.toNat * 32 + p.toNat) / 32 = s.toNat by omega, show (s.toNat * 32 + p.toNat) % 32 = p.toNat by omega, show ((s.toNat : Nat) : Int) = s by omega, show ((p.toNat : Nat) : Int) = p by omega] at h4
    exact onM_iff.1 h4
  · intro h
    have hi := hM s p h
    refine ⟨hi.1, hi.2.2.1, hi.2.2.2, by omega, ?_⟩
    unfold onf
    rw [show (s * 32 + p).toNat = s.toNat * 32 + p.toNat by omega, show (s.toNat * 32 + p.toNat) / 32 = s.toNat by omega, show (s.toNat * 32 + p.toNat) % 32 = p.toNat by omega, show ((s.toNat : Nat) : Int) = s by omega, show ((p.toNat : Nat) : Int) = p by omega]
    exact onM_iff.2 h
theorem blen_al (b m : Nat) (M : Mp) (hM : WM M) (fr : List Chunk) : Does Try.prog 19 [.pointer (some ⟨b, 0, none⟩)] (cells b 78 [.map (some m)] :: mpc m M :: fr) (fun _ : Unit => True) (fun _ => .int .i64 (al (onf M) 2048).length) (fun _ => cells b 78 [.map (some m)] :: mpc m M :: fr) := by
  have h := blen_c b m M (prs (onf M) 2048) (prs_nodup _ _) (onl_mem hM) fr
  rw [show (prs (onf M) 2048).length = (al (onf M) 2048).length by unfold prs; rw [List.length_map]] at h
  exact h
theorem pages_at (b m : Nat) (M : Mp) (hM : WM M) (s : Int) (c1 c2 : Chunk) (fr : List Chunk) : Does Try.prog 15 [.pointer (some ⟨b, 0, none⟩), .int .i64 s] (c1 :: c2 :: cells b 78 [.map (some m)] :: mpc m M :: fr) (fun _ : Option Addr × Nat => True) (fun x => .slice x.1 (pgs M s).length x.2) (fun x => own x.1 x.2 3 1 (pgs M s).length (ilS (pgs M s)) :: c1 :: c2 :: cells b 78 [.map (some m)] :: mpc m M :: fr) :=
  (does_perm (bpages_c b m M hM s (c1 :: c2 :: fr)) (sel_perm _ 4 [2, 3, 0, 1] (by decide))).post fun x _ => ⟨x, trivial, rfl, fun B w hS => hS.sel 5 [0, 3, 4, 1, 2] (by decide)⟩
attribute [local irreducible] Eng.Hold Eng.Z Eng.S Eng.cells Eng.old Eng.own Eng.mpc Eng.rgc Eng.onM Eng.fM Eng.wM Eng.upM Eng.delM
attribute [local irreducible] uss pcs pgs ilS dls row xs dmf rmM aM1 aM2 eqB usf onf
set_option maxHeartbeats 8000000 in
theorem bindPlays (W : World) (A0 : Option Addr) (c0 : Nat) (D : List Db) (hrd0 : Rds [old W] A0 (D.flatMap Db.cs)) (hx : D.length ≤ 9223372036854775807) :
    Does Try.prog 3 [.slice A0 D.length c0] [old W] (fun _ : Unit => True) (fun _ => .bool true) (fun _ => [old W]) := by
  intro w hw
  have hne0 : 0 < D.length → A0 ≠ none := fun h => hrd0.ne hw (by rw [flat_len Db.cs 5 db_len]; omega)
  refine f_enter Try.func3 rfl Try.ntmps3 rfl hw ?_
  repeat' (first
   | ((refine z_isdst 15 ?_; refine o_calla Try.func10 rfl rfl rfl (bnew_c _) (by decide) fun x _ => ?_; obtain ⟨b, m⟩ := x; dsimp only))
   | ((refine z_isdst 16 ?_; refine o_build0 (t := 31) (v := .agg (xs noM).toArray) (fun _ => by kernel_rfl) (by decide) ?_))
   | ((refine z_isdst 17 ?_; refine o_boxa (vs := xs noM) rfl rfl (by decide) fun gt => ?_))
   | (refine s_is ?_; first
   | (refine s_isw ?_; first
   | (refine s_isloop ?_; first
   | ((refine c_loop (X := Nat × Mp) (fun y => y.1 ≤ 60 ∧ y.1 ≤ D.length ∧ WM y.2) (fun y => [(0, .slice A0 D.length c0), (3, .pointer (some ⟨b, 0, none⟩)), (4, .pointer (some ⟨gt, 0, none⟩)), (5, .int .i64 y.1)]) (fun y => cells b 78 [.map (some m)] :: mpc m y.2 :: cells gt 31 (xs y.2) :: [old W]) (fun y => 60 - y.1) (0, noM) ⟨Nat.zero_le _, Nat.zero_le _, wm_no⟩ ⟨rfl, rfl, rfl, rfl, trivial⟩ (fun w h => ((h.sel 4 [1, 2, 0, 3] (by decide)).mask [true, true, true, true])) (fun y hy => ?_); obtain ⟨i, M0⟩ := y; obtain ⟨hi, hi2, hM0⟩ := hy; dsimp only at hi hi2 hM0 ⊢; refine hold ?_)))
   | refine c_seq ?_
   | refine c_block ?_
   | refine c_region ?_))
   | (refine z_isnil ?_; first
   | refine z_list ?_)
   | (refine z_isop ?_; first
   | refine o_assign rfl (by decide) ?_))
  refine Hold.go ?_
  by_cases hlt : i < D.length
  · by_cases hlt2 : i < 60
    · obtain ⟨d, hd⟩ : ∃ d, D[i]? = some d := ⟨D[i], List.getElem?_eq_getElem hlt⟩
      repeat' (first
       | ((refine z_isdst 31 ?_; refine o_loadsw tabOk (hrd0.sub (List.sublist_append_right [_, _, _] _)) rfl rfl rfl (es := d.cs) (db_len _) (by rw [db_len]; decide) (db_at D d hd) (by decide) ?_))
       | ((refine z_isdst 35 ?_; refine z_sel rfl 4 [1, 2, 3, 0] (by decide) ?_; refine o_calla Try.func11 rfl rfl rfl (bdoes_c b m gt M0 hM0 d.k d.s d.p d.f d.x _) (by decide) fun M hM => ?_; refine hold ?_))
       | ((refine z_isdst 6 ?_; refine o_alloca (e := 33) (vs := [.int .i64 0, .int .i64 0, .int .i64 0, .int .i64 0, .bool false]) rfl (by kernel_rfl) (by decide) fun g6 => ?_))
       | (refine s_is ?_; first
       | (refine s_isw ?_; first
       | refine c_seq ?_
       | refine c_block ?_
       | refine c_region ?_
       | refine c_skip ?_
       | (refine s_iscond ?_; first
       | (refine c_true rfl (by first | with_reducible rfl | with_reducible assumption | ((with_reducible refine decide_eq_true ?_); first | with_reducible rfl | with_reducible assumption | omega)) ?_))))
       | (refine z_isg1 ?_; first
       | (refine z_want1 rfl rfl (by first | with_reducible rfl | with_reducible assumption | ((with_reducible refine decide_eq_true ?_); first | with_reducible rfl | with_reducible assumption | omega)) ?_))
       | (refine z_isnil ?_; first
       | refine z_list ?_)
       | (refine z_isop ?_; first
       | refine o_indexsn tabOk (hne0 (by omega)) rfl rfl rfl rfl (by omega) (by omega) (by decide) ?_
       | (refine z_isbin ?_; first
       | (refine z_isb .lss ?_; first
       | refine o_lt rfl rfl (by decide) ?_))
       | (refine z_isload ?_; first
       | (refine z_ldw tabOk rfl rfl ?_; first
       | refine o_loadwm tabOk rfl rfl rfl (by repeat' (first | exact List.mem_cons_self | apply List.mem_cons_of_mem)) (by first | rfl | rfl) (by decide) ?_))
       | (refine z_isstore ?_; first
       | (refine z_stw rfl ?_; first
       | ((refine z_sti 0 rfl rfl ?_; refine o_storeb0 rfl tabOk rfl rfl rfl (by first | rfl | rfl) (by first | rfl | rfl) (by first | rfl | rfl) ?_))))
       | (refine z_ispick ?_; first
       | (refine o_pick1 rfl (by first | with_reducible rfl | with_reducible assumption | ((with_reducible refine decide_eq_true ?_); first | with_reducible rfl | with_reducible assumption | omega)) rfl (by decide) ?_))
       | (refine z_isbi ?_; first
       | refine o_len tabOk rfl rfl (by decide) ?_)
       | refine o_move rfl (by decide) ?_))
      refine Hold.go ?_
      have hpl := pgs_le M d.s
      have hul := uss_le M d.f
      repeat' (first
       | ((refine z_isdst 43 ?_; refine o_calla Try.func12 rfl rfl rfl (bget_c b m M d.s d.p _) (by decide) fun _ _ => ?_))
       | ((refine z_isdst 51 ?_; refine o_callr rfl Try.func13 rfl rfl rfl (xget_c gt M hM d.s d.p _ (cells_rds 3 rfl)) (by decide) ?_))
       | ((refine z_isdst 7 ?_; refine o_alloca (e := 36) (vs := [.int .i64 0, .bool false]) rfl (by kernel_rfl) (by decide) fun g7 => ?_))
       | ((refine z_isdst 9 ?_; refine o_alloca (e := 27) (vs := [.bool false, .int .i64 0, .bool false]) rfl (by kernel_rfl) (by decide) fun g9 => ?_))
       | (refine s_is ?_; first
       | (refine c_join (x := .seq (.region 11 _ _) _) (X := Unit) (fun _ => True) (fun _ => [(0, .slice A0 D.length c0), (3, .pointer (some ⟨b, 0, none⟩)), (4, .pointer (some ⟨gt, 0, none⟩)), (5, .int .i64 i), (6, .pointer (some ⟨g6, 0, none⟩))]) (fun _ => cells b 78 [.map (some m)] :: mpc m M :: cells gt 31 (xs M) :: cells g6 33 d.cs :: [old W]) (hold ?_) (fun _ _ => hold ?_))
       | (refine s_isw ?_; first
       | refine c_seq ?_
       | refine c_region ?_
       | refine c_skip ?_
       | (refine s_iscond ?_; first
       | (refine c_false rfl (by first | (simp only [Bool.not_eq_false', decide_eq_true_eq]; omega) | (with_reducible assumption) | (rw [decide_eq_false] <;> (first | omega | with_reducible rfl)) | (rw [decide_eq_true] <;> (first | omega | with_reducible rfl)) | (simp; done) | (simp; omega)) ?_))))
       | (refine z_isnil ?_; first
       | refine z_list ?_)
       | (refine z_isop ?_; first
       | (refine z_isload ?_; first
       | (refine z_ld1 tabOk rfl rfl ?_; first
       | refine o_loadm tabOk rfl rfl rfl (by repeat' (first | exact List.mem_cons_self | apply List.mem_cons_of_mem)) (by first | rfl | rfl) (by decide) ?_))
       | (refine z_isstore ?_; first
       | (refine z_stw rfl ?_; first
       | ((refine z_sti 0 rfl rfl ?_; refine o_storeb0 rfl tabOk rfl rfl rfl (by first | rfl | rfl) (by first | rfl | rfl) (by first | rfl | rfl) ?_))))
       | refine o_move rfl (by decide) ?_
       | refine o_assign rfl (by decide) ?_
       | refine o_extract rfl rfl (by decide) ?_
       | refine o_not rfl (by decide) ?_
       | refine o_field0 tabOk rfl rfl rfl rfl rfl (by decide) ?_))
      · refine Hold.go ?_
        generalize ho : onM M d.s d.p = o at *
        generalize hw2 : wM M d.s d.p = w2 at *
        repeat' (first
         | ((refine z_isdst 74 ?_; refine o_callx1 Try.func15 rfl rfl rfl (pages_at b m M hM d.s _ _ _) (by decide) (by decide) fun y _ => ?_))
         | ((refine z_isdst 78 ?_; refine o_callx1 Try.func16 rfl rfl rfl (xpages_c gt M hM d.s _ (cells_rds 5 rfl)) (by decide) (by decide) fun z _ => ?_))
         | ((refine z_isdst 79 ?_; refine o_callx0 Try.func14 rfl rfl rfl (ssame_c (pgs M d.s) _ _ _ _ _ (own_rds 1 rfl) (own_rds 0 rfl) (by omega)) (by decide) (by decide) ?_))
         | refine z_mono0ww ?_
         | (refine s_is ?_; first
         | (refine c_free0 ⟨[74, 78, 79], []⟩ [0, 1, 2, 3, 4, 5, 6, 7, 8, 9, 10, 11, 12, 13, 14, 15, 16, 17, 18, 19, 20, 21, 23, 24, 25, 22, 26, 27, 28, 29] (id := 11) mixed (by kernel_rfl) ?_)
         | (refine s_ismeet ?_; first
         | exact c_meet () trivial ⟨rfl, rfl, rfl, rfl, rfl, trivial⟩ (fun w h => ((h.sel 8 [4, 5, 6, 7, 0, 1, 2, 3] (by decide)).mask [true, true, true, true, false, false, false, false])))
         | (refine s_isw ?_; first
         | refine c_seq ?_
         | refine c_skip ?_
         | (refine s_iscond ?_; first
         | (refine c_false rfl (by first | (simp only [Bool.not_eq_false', decide_eq_true_eq]; omega) | (with_reducible assumption) | (rw [decide_eq_false] <;> (first | omega | with_reducible rfl)) | (rw [decide_eq_true] <;> (first | omega | with_reducible rfl)) | (simp; done) | (simp; omega)) ?_))))
         | (refine z_isg0 ?_; first
         | (refine z_want0 rfl rfl (by first | with_reducible rfl | with_reducible assumption | ((with_reducible refine decide_eq_false ?_); first | with_reducible assumption | omega)) ?_)
         | (refine z_want0 rfl rfl (by first | (simp only [Bool.not_eq_false', decide_eq_true_eq]; omega) | (with_reducible assumption) | (rw [decide_eq_false] <;> (first | omega | with_reducible rfl)) | (rw [decide_eq_true] <;> (first | omega | with_reducible rfl)) | (simp; done) | (simp; omega)) ?_))
         | (refine z_isop ?_; first
         | (refine z_isbin ?_; first
         | (refine z_isb .neq ?_; first
         | refine o_ne rfl rfl (by decide) ?_
         | refine o_bne tabOk rfl rfl rfl (by decide) ?_))
         | (refine z_isload ?_; first
         | (refine z_ld1 tabOk rfl rfl ?_; first
         | refine o_loadm tabOk rfl rfl rfl (by repeat' (first | exact List.mem_cons_self | apply List.mem_cons_of_mem)) (by first | rfl | rfl) (by decide) ?_))
         | (refine z_ispick ?_; first
         | (refine o_pick0 rfl (by first | with_reducible rfl | with_reducible assumption | ((with_reducible refine decide_eq_false ?_); first | with_reducible assumption | omega)) rfl (by decide) ?_)
         | (refine o_pick0 rfl (by first | (simp only [Bool.not_eq_false', decide_eq_true_eq]; omega) | (with_reducible assumption) | (rw [decide_eq_false] <;> (first | omega | with_reducible rfl)) | (rw [decide_eq_true] <;> (first | omega | with_reducible rfl)) | (simp; done) | (simp; omega)) rfl (by decide) ?_))
         | refine o_move rfl (by decide) ?_
         | refine o_not rfl (by decide) ?_
         | refine o_field0 tabOk rfl rfl rfl rfl rfl (by decide) ?_))
      · refine Hold.go ?_
        repeat' (first
         | ((refine z_isdst 85 ?_; refine o_callx1 Try.func17 rfl rfl rfl (buses_c b m M hM d.f _) (by decide) (by decide) fun y _ => ?_))
         | ((refine z_isdst 89 ?_; refine o_callx1 Try.func18 rfl rfl rfl (xuses_c gt M d.f _ (cells_rds 3 rfl)) (by decide) (by decide) fun z _ => ?_))
         | refine z_mono0ww ?_
         | (refine s_is ?_; first
         | (refine c_free0 ⟨[85, 89], []⟩ [0, 1, 2, 4, 5, 6, 3, 7, 8, 9] (id := 13) mixed (by kernel_rfl) ?_)
         | (refine s_isw ?_; first
         | (refine s_isloop ?_; first
         | ((refine c_loop (X := Nat) (fun k => k ≤ (uss M d.f).length) (fun k => [(0, .slice A0 D.length c0), (3, .pointer (some ⟨b, 0, none⟩)), (4, .pointer (some ⟨gt, 0, none⟩)), (5, .int .i64 i), (10, .slice y.1 (uss M d.f).length y.2), (11, .slice z.1 (uss M d.f).length z.2), (12, .int .i64 k)]) (fun _ => own z.1 z.2 45 2 (uss M d.f).length (pcs (uss M d.f)) :: own y.1 y.2 45 2 (uss M d.f).length (pcs (uss M d.f)) :: cells b 78 [.map (some m)] :: mpc m M :: cells gt 31 (xs M) :: cells g6 33 d.cs :: [old W]) (fun k => (uss M d.f).length - k) 0 (Nat.zero_le _) ⟨rfl, rfl, rfl, rfl, rfl, rfl, rfl, trivial⟩ (fun w h => h) (fun k hk => ?_); refine c_own2 0 rfl fun hz1 hz2 => c_own2 1 rfl fun hy1 hy2 => hold ?_)))
         | refine c_seq ?_
         | refine c_block ?_
         | refine c_region ?_
         | refine c_skip ?_
         | (refine s_iscond ?_; first
         | (refine c_false rfl (by first | with_reducible rfl | with_reducible assumption | ((with_reducible refine decide_eq_false ?_); first | with_reducible assumption | omega)) ?_))))
         | (refine z_isnil ?_; first
         | refine z_list ?_)
         | (refine z_isop ?_; first
         | (refine z_isbin ?_; first
         | (refine z_isb .neq ?_; first
         | refine o_ne rfl rfl (by decide) ?_))
         | (refine z_isload ?_; first
         | (refine z_ld1 tabOk rfl rfl ?_; first
         | refine o_loadm tabOk rfl rfl rfl (by repeat' (first | exact List.mem_cons_self | apply List.mem_cons_of_mem)) (by first | rfl | rfl) (by decide) ?_))
         | (refine z_isbi ?_; first
         | refine o_len tabOk rfl rfl (by decide) ?_)
         | refine o_move rfl (by decide) ?_
         | refine o_assign rfl (by decide) ?_
         | refine o_field0 tabOk rfl rfl rfl rfl rfl (by decide) ?_))
        refine Hold.go ?_
        by_cases hkl : k < (uss M d.f).length
        · have hel := pcs_el (uss M d.f) hkl
          generalize (uss M d.f)[k] = x at *
          have e3 : (!eqB (prc x) (prc x)) = false := by rw [eqB_pair]; rfl
          repeat' (first
           | ((refine z_isdst 103 ?_; refine o_indexsn tabOk (hy2 (by omega)) rfl rfl rfl rfl (by omega) (by omega) (by decide) ?_))
           | ((refine z_isdst 104 ?_; refine o_loadsw tabOk (own_rds 1 rfl) rfl rfl rfl (es := prc x) rfl (Nat.succ_pos _) hel (by decide) ?_))
           | ((refine z_isdst 107 ?_; refine o_indexsn tabOk (hz2 (by omega)) rfl rfl rfl rfl (by omega) (by omega) (by decide) ?_))
           | ((refine z_isdst 108 ?_; refine o_loadsw tabOk (own_rds 0 rfl) rfl rfl rfl (es := prc x) rfl (Nat.succ_pos _) hel (by decide) ?_))
           | ((refine z_isdst 109 ?_; refine o_nea cmp_pair rfl rfl ⟨rfl, rfl, trivial⟩ ⟨rfl, rfl, trivial⟩ (by decide) ?_))
           | (refine s_is ?_; first
           | (refine s_isagain ?_; first
           | exact c_again (k + 1) (by omega) (by omega) ⟨rfl, rfl, rfl, rfl, rfl, rfl, rfl, trivial⟩ (fun w h => h))
           | (refine s_isw ?_; first
           | refine c_seq ?_
           | refine c_block ?_
           | refine c_region ?_
           | refine c_mixed mixed (by kernel_rfl) ?_
           | refine c_skip ?_
           | (refine s_iscond ?_; first
           | (refine c_true rfl (by first | with_reducible rfl | with_reducible assumption | ((with_reducible refine decide_eq_true ?_); first | with_reducible rfl | with_reducible assumption | omega)) ?_)
           | (refine c_false rfl (by first | with_reducible rfl | with_reducible assumption | ((with_reducible refine decide_eq_false ?_); first | with_reducible assumption | omega)) ?_))))
           | (refine z_isnil ?_; first
           | refine z_list ?_
           | refine z_mixed ?_)
           | (refine z_isop ?_; first
           | (refine z_isbin ?_; first
           | (refine z_isb .add ?_; first
           | refine o_add rfl rfl (by omega) (by omega) (by decide) ?_)
           | (refine z_isb .lss ?_; first
           | refine o_lt rfl rfl (by decide) ?_))
           | (refine z_isbi ?_; first
           | refine o_len tabOk rfl rfl (by decide) ?_)
           | refine o_move rfl (by decide) ?_
           | refine o_assign rfl (by decide) ?_))
        · obtain rfl : k = (uss M d.f).length := by omega
          repeat' (first
           | (refine s_is ?_; first
           | (refine s_isw ?_; first
           | (refine s_isloop ?_; first
           | ((refine c_loop (X := Nat) (fun s => s ≤ 64) (fun s => [(0, .slice A0 D.length c0), (3, .pointer (some ⟨b, 0, none⟩)), (4, .pointer (some ⟨gt, 0, none⟩)), (5, .int .i64 i), (13, .int .i64 (al (onf M) (s * 32)).length), (14, .int .i64 s)]) (fun _ => cells b 78 [.map (some m)] :: mpc m M :: cells gt 31 (xs M) :: cells g6 33 d.cs :: [old W]) (fun s => 64 - s) 0 (Nat.zero_le _) ⟨rfl, rfl, rfl, rfl, rfl, rfl, trivial⟩ (fun w h => ((h.sel 7 [2, 3, 4, 5, 6, 0, 1] (by decide)).mask [true, true, true, true, true, false, false])) (fun s hs0 => ?_); refine hold ?_)))
           | refine c_seq ?_
           | refine c_block ?_
           | refine c_region ?_
           | refine c_exit ?_
           | (refine s_iscond ?_; first
           | (refine c_false rfl (by first | with_reducible rfl | with_reducible assumption | ((with_reducible refine decide_eq_false ?_); first | with_reducible assumption | omega)) ?_))))
           | (refine z_isnil ?_; first
           | refine z_list ?_)
           | (refine z_isop ?_; first
           | (refine z_isbin ?_; first
           | (refine z_isb .lss ?_; first
           | refine o_lt rfl rfl (by decide) ?_))
           | (refine z_isbi ?_; first
           | refine o_len tabOk rfl rfl (by decide) ?_)
           | refine o_move rfl (by decide) ?_
           | refine o_assign rfl (by decide) ?_))
          refine Hold.go ?_
          have hsl := al_le (onf M) (s * 32)
          by_cases hs : s < 64
          · have hadd := onf_add M s
            have hps := pgs_le M s
            repeat' (first
             | ((refine z_isdst 117 ?_; refine o_calla Try.func16 rfl rfl rfl (xpages_c gt M hM s _ (cells_rds 2 rfl)) (by decide) fun u _ => ?_))
             | (refine s_is ?_; first
             | (refine s_isagain ?_; first
             | (exact c_again (s + 1) (by omega) (by omega) ⟨rfl, rfl, rfl, rfl, (by rw [hadd]; exact congrArg some (congrArg (Value.int .i64) (by omega))), rfl, trivial⟩ (fun w h => ((h.sel 6 [1, 2, 3, 4, 5, 0] (by decide)).mask [true, true, true, true, true, false]))))
             | (refine s_isw ?_; first
             | refine c_seq ?_
             | refine c_block ?_
             | refine c_region ?_
             | refine c_skip ?_
             | (refine s_iscond ?_; first
             | (refine c_true rfl (by first | with_reducible rfl | with_reducible assumption | ((with_reducible refine decide_eq_true ?_); first | with_reducible rfl | with_reducible assumption | omega)) ?_))))
             | (refine z_isnil ?_; first
             | refine z_list ?_)
             | (refine z_isop ?_; first
             | (refine z_isbin ?_; first
             | (refine z_isb .add ?_; first
             | refine o_add rfl rfl (by omega) (by omega) (by decide) ?_)
             | (refine z_isb .lss ?_; first
             | refine o_lt rfl rfl (by decide) ?_))
             | (refine z_isbi ?_; first
             | refine o_len tabOk rfl rfl (by decide) ?_)
             | refine o_move rfl (by decide) ?_
             | refine o_assign rfl (by decide) ?_))
          · obtain rfl : s = 64 := by omega
            repeat' (first
             | ((refine z_isdst 121 ?_; refine o_calla Try.func19 rfl rfl rfl (blen_al b m M hM _) (by decide) fun _ _ => ?_))
             | (refine s_is ?_; first
             | (refine s_isagain ?_; first
             | (exact c_again (i + 1, M) ⟨(by dsimp only; omega), (by dsimp only; omega), hM⟩ (by dsimp only; omega) ⟨rfl, rfl, rfl, rfl, trivial⟩ (fun w h => ((h.sel 5 [0, 1, 2, 4, 3] (by decide)).mask [true, true, true, true, false]))))
             | (refine s_isw ?_; first
             | refine c_seq ?_
             | refine c_region ?_
             | refine c_skip ?_
             | refine c_exit ?_
             | (refine s_iscond ?_; first
             | (refine c_false rfl (by first | with_reducible rfl | with_reducible assumption | ((with_reducible refine decide_eq_false ?_); first | with_reducible assumption | omega)) ?_)
             | (refine c_false rfl (by first | (simp only [Bool.not_eq_false', decide_eq_true_eq]; omega) | (with_reducible assumption) | (rw [decide_eq_false] <;> (first | omega | with_reducible rfl)) | (rw [decide_eq_true] <;> (first | omega | with_reducible rfl)) | (simp; done) | (simp; omega)) ?_))))
             | (refine z_isnil ?_; first
             | refine z_list ?_)
             | (refine z_isop ?_; first
             | (refine z_isbin ?_; first
             | (refine z_isb .add ?_; first
             | refine o_add rfl rfl (by omega) (by omega) (by decide) ?_)
             | (refine z_isb .neq ?_; first
             | refine o_ne rfl rfl (by decide) ?_)
             | (refine z_isb .lss ?_; first
             | refine o_lt rfl rfl (by decide) ?_))
             | refine o_move rfl (by decide) ?_
             | refine o_assign rfl (by decide) ?_))
    · skip
      repeat' (first
       | (refine s_is ?_; first
       | (refine s_isret ?_; first
       | exact f_r1 rfl (res_t rfl) () trivial rfl (fun w h => ((h.sel 4 [3, 0, 1, 2] (by decide)).mask [true, false, false, false])))
       | (refine s_isw ?_; first
       | refine c_seq ?_
       | refine c_region ?_
       | refine c_ret ?_
       | refine c_exit ?_
       | (refine s_iscond ?_; first
       | (refine c_false rfl (by first | with_reducible rfl | with_reducible assumption | ((with_reducible refine decide_eq_false ?_); first | with_reducible assumption | omega)) ?_))))
       | (refine z_isg1 ?_; first
       | (refine z_want1 rfl rfl (by first | with_reducible rfl | with_reducible assumption | ((with_reducible refine decide_eq_true ?_); first | with_reducible rfl | with_reducible assumption | omega)) ?_))
       | (refine z_isnil ?_; first
       | refine z_list ?_)
       | (refine z_isop ?_; first
       | (refine z_isbin ?_; first
       | (refine z_isb .lss ?_; first
       | refine o_lt rfl rfl (by decide) ?_))
       | (refine z_iscall ?_; first
       | ((refine z_iscallf 20 ?_; refine o_fn rfl Try.func20 rfl rfl rfl (bawake_p) (by decide) ?_)))
       | (refine z_ispick ?_; first
       | (refine o_pick1 rfl (by first | with_reducible rfl | with_reducible assumption | ((with_reducible refine decide_eq_true ?_); first | with_reducible rfl | with_reducible assumption | omega)) rfl (by decide) ?_))
       | (refine z_isbi ?_; first
       | refine o_len tabOk rfl rfl (by decide) ?_)
       | refine o_move rfl (by decide) ?_
       | refine o_assign rfl (by decide) ?_))
  · skip
    repeat' (first
     | (refine s_is ?_; first
     | (refine s_isret ?_; first
     | exact f_r1 rfl (res_t rfl) () trivial rfl (fun w h => ((h.sel 4 [3, 0, 1, 2] (by decide)).mask [true, false, false, false])))
     | (refine s_isw ?_; first
     | refine c_seq ?_
     | refine c_region ?_
     | refine c_ret ?_
     | refine c_exit ?_
     | (refine s_iscond ?_; first
     | (refine c_false rfl (by first | with_reducible rfl | with_reducible assumption | ((with_reducible refine decide_eq_false ?_); first | with_reducible assumption | omega)) ?_))))
     | (refine z_isg1 ?_; first
     | (refine z_skip1 (by decide) rfl rfl (by first | with_reducible rfl | with_reducible assumption | ((with_reducible refine decide_eq_false ?_); first | with_reducible assumption | omega)) ?_))
     | (refine z_isnil ?_; first
     | refine z_list ?_)
     | (refine z_isop ?_; first
     | (refine z_isbin ?_; first
     | (refine z_isb .lss ?_; first
     | refine o_lt rfl rfl (by decide) ?_))
     | (refine z_iscall ?_; first
     | ((refine z_iscallf 20 ?_; refine o_fn rfl Try.func20 rfl rfl rfl (bawake_p) (by decide) ?_)))
     | (refine z_ispick ?_; first
     | (refine o_pick0 rfl (by first | with_reducible rfl | with_reducible assumption | ((with_reducible refine decide_eq_false ?_); first | with_reducible assumption | omega)) rfl (by decide) ?_))
     | (refine z_isbi ?_; first
     | refine o_len tabOk rfl rfl (by decide) ?_)
     | refine o_move rfl (by decide) ?_
     | refine o_assign rfl (by decide) ?_))
end Go.Proofs.Ytnckabgaichkkaa
