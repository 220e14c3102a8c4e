/-
Shadow: a deed in both.
-/
import Derived.Test.YtnckabgaichkkaaSh7
namespace Go.Proofs.Ytnckabgaichkkaa
set_option linter.unusedVariables false
set_option linter.unusedSimpArgs false
open Eng
theorem c_free3 {P : Program} {n : Nat} {l : Fr} {B : Base} {hp : List Chunk} {Q : Exit → Act → World → Prop} {id : Nat} {os : List Oper} {c c' c'' : Chunk} (el : Ord) (π : List Nat) (hm : P.follows .mixedOrders = true) (hB : freeB el os.toArray os.length π = true)
    (h : Z P os.toArray (.mono el [c, c', c''] (Q .normal) []) n l B hp (pickL os π)) : S n l B (c :: c' :: c'' :: hp) (Code.wp P (.region id os.toArray true) Q) := c_free (wr := [c, c', c'']) el π hm hB h
theorem WO.up {M O : Mp} (h : WO M O) (s p : Int) (v : Int × Bool) : WO (upM M s p v) (delM O s p) := fun a c u hu => by
  by_cases e : a = s ∧ c = p
  · unfold delM at hu; rw [if_pos e] at hu; cases hu
  · unfold delM at hu; rw [if_neg e] at hu
    unfold upM; rw [if_neg e]; exact h a c u hu
theorem WO.del {M O : Mp} (h : WO M O) (s p : Int) : WO (delM M s p) (delM O s p) := fun a c u hu => by
  by_cases e : a = s ∧ c = p
  · unfold delM at hu; rw [if_pos e] at hu; cases hu
  · unfold delM at hu ⊢; rw [if_neg e] at hu ⊢; exact h a c u hu
theorem WO.fill {M O : Mp} (h : WO M O) {s p : Int} (hon : onM M s p = true) : WO M (upM O s p (fM M s p, wM M s p)) := fun a c u hu => by
  by_cases e : a = s ∧ c = p
  · unfold upM at hu; rw [if_pos e] at hu
    obtain ⟨rfl, rfl⟩ := e
    cases hm : M a c with
    | none => exact absurd hm (onM_iff.1 hon)
    | some v =>
      unfold fM wM at hu
      rw [hm] at hu
      exact hu
  · unfold upM at hu; rw [if_neg e] at hu; exact h a c u hu
theorem WO.dls {M O : Mp} (h : WO M O) (L : List (Int × Int)) : WO (Go.Proofs.Ytnckabgaichkkaa.dls M L) (Go.Proofs.Ytnckabgaichkkaa.dls O L) := fun a c u hu => by
  unfold Go.Proofs.Ytnckabgaichkkaa.dls at hu ⊢
  by_cases e : (a, c) ∈ L
  · rw [if_pos e] at hu; cases hu
  · rw [if_neg e] at hu ⊢; exact h a c u hu
theorem wo_no : WO noM noM := fun s p v h => h
theorem flt_prs (O : Mp) (g : Nat → Bool) : ∀ n, flt O (prs g n) = prs (fun k => g k && onf O k) n
  | 0 => rfl
  | n + 1 => by
    have ih := flt_prs O g n
    have hp : plc (n : Int) = (((n / 32 : Nat) : Int), ((n % 32 : Nat) : Int)) := rfl
    cases hg : g n with
    | false =>
      rw [prs_no hg, prs_no (g := fun k => g k && onf O k) (by rw [hg]; rfl), ih]
    | true =>
      rw [prs_yes hg, hp]
      cases ho : onf O n with
      | true => rw [prs_yes (g := fun k => g k && onf O k) (by rw [hg, ho]; rfl), flt_yes (by unfold onf at ho; exact ho), ih]; rfl
      | false => rw [prs_no (g := fun k => g k && onf O k) (by rw [hg, ho]; rfl), flt_no (by unfold onf at ho; exact ho), ih]
theorem row_prs {M : Mp} (hM : WM M) {s : Int} (hs : 0 ≤ s) : row M s = prs (dmf M s (-1) 0) 2048 := by
  have h1 : (row M s).Pairwise lexR := by
    unfold row
    rw [List.pairwise_map]
    exact (al_sorted _ _).imp fun {a b} h => by unfold lexR; dsimp only; omega
  refine eq_pw lexR_asymm (perm_of_nodup (row_nodup M s) (prs_nodup _ _) fun x => ?_) h1 (prs_sorted _ _)
  obtain ⟨a, c⟩ := x
  rw [row_mem hM, prs_mem]
  have hmm : ∀ a c, mine M s (-1) 0 a c = decide (a = s) := fun a c => by unfold mine; rw [if_neg (by omega)]; simp
  constructor
  · rintro ⟨rfl, hn⟩
    have hi := hM _ _ hn
    obtain ⟨i0, i1, i2, i3⟩ := hi
    refine ⟨i0, i2, i3, by omega, ?_⟩
    rw [dmf_at ⟨i0, i2, i3⟩, hmm, onM_iff.2 hn]
    simp
  · rintro ⟨h0, h2, h3, h4, h5⟩
    rw [dmf_at ⟨h0, h2, h3⟩, hmm, Bool.and_eq_true, decide_eq_true_eq] at h5
    obtain ⟨h5, rfl⟩ := h5
    exact ⟨rfl, onM_iff.1 h5⟩
theorem row_out {M O : Mp} (hM : WM M) {s : Int} (hs : 0 ≤ s) : flt O (row M s) = prs (dof M O s 0) 2048 := by rw [row_prs hM hs, flt_prs]; rfl
theorem uss_out (M O : Mp) (f : Int) : flt O (uss M f) = prs (dof M O (-1) f) 2048 := by
  unfold uss dof
  rw [flt_prs, dmf_usf]
theorem row_rmO {M O : Mp} (hM : WM M) (hO : WO M O) {s : Int} (hs : 0 ≤ s) : dls O (row M s) = rmM O (dmf M s (-1) 0) 2048 := dls_rm (hO.wm hM) fun a c h => by
  rw [row_prs hM hs, prs_mem]
  obtain ⟨i0, i1, i2, i3⟩ := hO.wm hM a c h
  exact ⟨fun e => e.2.2.2.2, fun e => ⟨i0, i2, i3, by omega, e⟩⟩
theorem uss_rmO {M O : Mp} (hM : WM M) (hO : WO M O) (f : Int) : dls O (uss M f) = rmM O (dmf M (-1) (-1) f) 2048 := dls_rm (hO.wm hM) fun a c h => by
  unfold uss
  rw [dmf_usf, prs_mem]
  obtain ⟨i0, i1, i2, i3⟩ := hO.wm hM a c h
  exact ⟨fun e => e.2.2.2.2, fun e => ⟨i0, i2, i3, by omega, e⟩⟩
theorem row_no {M : Mp} (hM : WM M) {s : Int} (h : ¬ 0 ≤ s) : row M s = [] := by unfold row; rw [pgs_neg hM h]; rfl
attribute [local irreducible] Eng.Hold Eng.Z Eng.S Eng.cells Eng.old Eng.own Eng.mpc Eng.rgc Eng.onM Eng.fM Eng.wM Eng.upM Eng.delM
attribute [local irreducible] uss pcs pgs ilS dls row xs dmf rmM aM1 aM2 eqB usf flt onf os dof aS1 aS2
set_option maxHeartbeats 8000000 in
theorem sdoes_c (sb b m o t : Nat) (M O : Mp) (hM : WM M) (hO : WO M O) (k s p f : Int) (x : Bool) (fr : List Chunk) : Does Try.prog 26 [.pointer (some ⟨sb, 0, none⟩), .pointer (some ⟨t, 0, none⟩), .agg #[.int .i64 k, .int .i64 s, .int .i64 p, .int .i64 f, .bool x]] (cells sb 89 [.pointer (some ⟨b, 0, none⟩), .map (some o)] :: cells b 78 [.map (some m)] :: mpc m (M) :: mpc o (O) :: cells t 61 (xs (M) ++ os (O)) :: fr) (fun y : Mp × Mp => WM y.1 ∧ WO y.1 y.2) (fun _ => .bool true) (fun y => cells sb 89 [.pointer (some ⟨b, 0, none⟩), .map (some o)] :: cells b 78 [.map (some m)] :: mpc m (y.1) :: mpc o (y.2) :: cells t 61 (xs (y.1) ++ os (y.2)) :: fr) := by
  intro w hw
  refine f_enter Try.func26 rfl Try.ntmps26 rfl hw ?_
  by_cases hk : 0 ≤ k ∧ k ≤ 4
  · skip
    repeat' (first
     | ((refine z_isdst 5 ?_; refine o_boxa (vs := [.int .i64 k, .int .i64 s, .int .i64 p, .int .i64 f, .bool x]) rfl rfl (by decide) fun g5 => ?_))
     | (refine s_is ?_; first
     | refine c_join (x := .seq (.region 2 _ _) _) (X := Unit) (fun _ => True) (fun _ => [(0, .pointer (some ⟨sb, 0, none⟩)), (1, .pointer (some ⟨t, 0, none⟩)), (5, .pointer (some ⟨g5, 0, none⟩)), (16, .bool true)]) (fun _ => cells g5 63 [.int .i64 k, .int .i64 s, .int .i64 p, .int .i64 f, .bool x] :: cells sb 89 [.pointer (some ⟨b, 0, none⟩), .map (some o)] :: cells b 78 [.map (some m)] :: mpc m (M) :: mpc o (O) :: cells t 61 (xs (M) ++ os (O)) :: fr) (hold ?_) (fun _ _ => hold ?_)
     | (refine s_isw ?_; first
     | refine c_seq ?_
     | refine c_block ?_
     | refine c_region ?_))
     | (refine z_isnil ?_; first
     | refine z_list ?_)
     | (refine z_isop ?_; first
     | (refine z_isload ?_; first
     | (refine z_ld1 tabOk rfl rfl ?_; first
     | refine o_loadm tabOk rfl rfl rfl (by repeat' (first | exact List.mem_cons_self | apply List.mem_cons_of_mem)) (by first | rfl | rfl) (by decide) ?_))
     | refine o_assign rfl (by decide) ?_
     | refine o_field0 tabOk rfl rfl rfl rfl rfl (by decide) ?_))
    · refine Hold.go ?_
      have h5 : k = 0 ∨ k = 1 ∨ k = 2 ∨ k = 3 ∨ k = 4 := by omega
      rcases h5 with rfl | rfl | rfl | rfl | rfl
      all_goals repeat' (first
       | (refine s_is ?_; first
       | (refine s_ismeet ?_; first
       | exact c_meet () trivial ⟨rfl, rfl, rfl, rfl, trivial⟩ (fun w h => h))
       | (refine s_isw ?_; first
       | refine c_seq ?_
       | refine c_region ?_
       | refine c_skip ?_
       | (refine s_iscond ?_; first
       | (refine c_true rfl (by first | with_reducible rfl | with_reducible assumption | ((with_reducible refine decide_eq_true ?_); first | with_reducible rfl | with_reducible assumption | omega)) ?_)
       | (refine c_false rfl (by first | with_reducible rfl | with_reducible assumption | ((with_reducible refine decide_eq_false ?_); first | with_reducible assumption | omega)) ?_))))
       | (refine z_isnil ?_; first
       | refine z_list ?_)
       | (refine z_isop ?_; first
       | (refine z_isbin ?_; first
       | (refine z_isb .eql ?_; first
       | refine o_eq rfl rfl (by decide) ?_))
       | refine o_assign rfl (by decide) ?_))
    · refine Hold.go ?_
      by_cases hi : InP s p ∧ 0 ≤ f ∧ f < 512
      · have h1 : ∀ c5 : Chunk, Does Try.prog 39 [.pointer (some ⟨sb, 0, none⟩), .int .i64 s, .int .i64 p, .agg #[.int .i64 f, .bool x]] ([mpc m (M), mpc o (O), cells t 61 (xs (M) ++ os (O))] ++ (c5 :: cells sb 89 [.pointer (some ⟨b, 0, none⟩), .map (some o)] :: cells b 78 [.map (some m)] :: fr)) (fun _ : Unit => True) (fun _ => .bool (onM O s p)) (fun _ => [mpc m (upM M s p (f, x)), mpc o (delM O s p), cells t 61 (xs (M) ++ os (O))] ++ (c5 :: cells sb 89 [.pointer (some ⟨b, 0, none⟩), .map (some o)] :: cells b 78 [.map (some m)] :: fr)) := fun c5 => (does_perm (sbind_y sb b m o M O s p f x hi.1 hi.2 (cells t 61 (xs (M) ++ os (O)) :: c5 :: fr)) (sel_perm _ 6 [4, 5, 0, 1, 2, 3] (by decide))).post fun _ _ => ⟨(), trivial, rfl, fun B w hS => hS.sel 6 [2, 3, 4, 5, 0, 1] (by decide)⟩
        have h2 : ∀ c5 : Chunk, Does Try.prog 49 [.pointer (some ⟨t, 0, none⟩), .int .i64 s, .int .i64 p, .int .i64 f, .bool x] ([mpc m (upM M s p (f, x)), mpc o (delM O s p), cells t 61 (xs (M) ++ os (O))] ++ (c5 :: cells sb 89 [.pointer (some ⟨b, 0, none⟩), .map (some o)] :: cells b 78 [.map (some m)] :: fr)) (fun _ : Unit => True) (fun _ => .bool (onM O s p)) (fun _ => [mpc m (upM M s p (f, x)), mpc o (delM O s p), cells t 61 (xs (upM M s p (f, x)) ++ os (delM O s p))] ++ (c5 :: cells sb 89 [.pointer (some ⟨b, 0, none⟩), .map (some o)] :: cells b 78 [.map (some m)] :: fr)) := fun c5 => (does_perm (ybind_y t M O s p f x hi.1 hi.2 (mpc m (upM M s p (f, x)) :: mpc o (delM O s p) :: c5 :: cells sb 89 [.pointer (some ⟨b, 0, none⟩), .map (some o)] :: cells b 78 [.map (some m)] :: fr)) (sel_perm _ 3 [2, 0, 1] (by decide))).post fun _ _ => ⟨(), trivial, rfl, fun B w hS => hS.sel 3 [1, 2, 0] (by decide)⟩
        generalize onM O s p = u at *
        cases u
        all_goals repeat' (first
         | ((refine s_sel 6 [3, 4, 5, 0, 1, 2] (by decide) ?_; refine c_free3 ⟨[32, 42], []⟩ [0, 1, 2, 3, 4, 5, 6, 7, 8, 9, 11, 12, 13, 14, 15, 16, 17, 18, 19, 10, 20, 21, 22] (id := 7) mixed (by kernel_rfl) ?_))
         | ((refine z_isdst 32 ?_; refine o_callx (po := fun _ => [mpc m (upM M s p (f, x)), mpc o (delM O s p), cells t 61 (xs (M) ++ os (O))]) Try.func39 rfl rfl rfl (h1 _) (by decide) (by decide) fun _ _ => ?_))
         | ((refine z_isdst 42 ?_; refine o_callx (po := fun _ => [mpc m (upM M s p (f, x)), mpc o (delM O s p), cells t 61 (xs (upM M s p (f, x)) ++ os (delM O s p))]) Try.func49 rfl rfl rfl (h2 _) (by decide) (by decide) fun _ _ => ?_))
         | ((refine z_isdst 31 ?_; refine o_buildf (t := 36) (zs := [.int .i64 0, .bool false]) (vs := [.int .i64 f, .bool x]) tabOk rfl rfl (by kernel_rfl) rfl ⟨_, _, rfl, rfl, Nat.le_of_ble_eq_true rfl, _, _, rfl, rfl, Nat.le_of_ble_eq_true rfl, rfl⟩ (by decide) ?_))
         | (refine s_is ?_; first
         | (refine s_isret ?_; first
         | exact f_r1 rfl (res_t rfl) (upM M s p (f, x), delM O s p) ⟨hM.up hi.1 _, hO.up _ _ _⟩ rfl (fun w h => ((h.sel 6 [4, 5, 0, 1, 2, 3] (by decide)).mask [true, true, true, true, true, false])))
         | (refine s_isw ?_; first
         | refine c_seq ?_
         | refine c_ret ?_
         | (refine s_iscond ?_; first
         | (refine c_true rfl (by first | with_reducible rfl | with_reducible assumption | ((with_reducible refine decide_eq_true ?_); first | with_reducible rfl | with_reducible assumption | omega)) ?_)))
         | refine x_then_ret ?_
         | refine x_block_ret _ ?_)
         | (refine z_isnil ?_; first
         | refine z_mono0n ?_)
         | (refine z_isop ?_; first
         | (refine z_isbin ?_; first
         | (refine z_isb .eql ?_; first
         | refine o_beq tabOk rfl rfl rfl (by decide) ?_))
         | (refine z_isload ?_; first
         | (refine z_ld1 tabOk rfl rfl ?_; first
         | refine o_loadm tabOk rfl rfl rfl (by repeat' (first | exact List.mem_cons_self | apply List.mem_cons_of_mem)) (by first | rfl | rfl) (by decide) ?_))
         | refine o_move rfl (by decide) ?_
         | refine o_assign rfl (by decide) ?_
         | refine o_field0 tabOk rfl rfl rfl rfl rfl (by decide) ?_))
      · have h1 : ∀ c5 : Chunk, Does Try.prog 39 [.pointer (some ⟨sb, 0, none⟩), .int .i64 s, .int .i64 p, .agg #[.int .i64 f, .bool x]] ([mpc m (M), mpc o (O), cells t 61 (xs (M) ++ os (O))] ++ (c5 :: cells sb 89 [.pointer (some ⟨b, 0, none⟩), .map (some o)] :: cells b 78 [.map (some m)] :: fr)) (fun _ : Unit => True) (fun _ => .bool false) (fun _ => [mpc m (M), mpc o (O), cells t 61 (xs (M) ++ os (O))] ++ (c5 :: cells sb 89 [.pointer (some ⟨b, 0, none⟩), .map (some o)] :: cells b 78 [.map (some m)] :: fr)) := fun c5 => (does_perm (sbind_n sb b m o M O s p f x hi (cells t 61 (xs (M) ++ os (O)) :: c5 :: fr)) (sel_perm _ 6 [4, 5, 0, 1, 2, 3] (by decide))).post fun _ _ => ⟨(), trivial, rfl, fun B w hS => hS.sel 6 [2, 3, 4, 5, 0, 1] (by decide)⟩
        repeat' (first
         | ((refine s_sel 6 [3, 4, 5, 0, 1, 2] (by decide) ?_; refine c_free3 ⟨[32, 42], []⟩ [0, 1, 2, 3, 4, 5, 6, 7, 8, 9, 11, 12, 13, 14, 15, 16, 17, 18, 19, 10, 20, 21, 22] (id := 7) mixed (by kernel_rfl) ?_))
         | ((refine z_isdst 32 ?_; refine o_callx (po := fun _ => [mpc m (M), mpc o (O), cells t 61 (xs (M) ++ os (O))]) Try.func39 rfl rfl rfl (h1 _) (by decide) (by decide) fun _ _ => ?_))
         | ((refine z_isdst 42 ?_; refine o_callx (po := fun _ => [mpc m (M), mpc o (O), cells t 61 (xs (M) ++ os (O))]) Try.func49 rfl rfl rfl ((ybind_n t s p f x hi).frame _) (by decide) (by decide) fun _ _ => ?_))
         | ((refine z_isdst 31 ?_; refine o_buildf (t := 36) (zs := [.int .i64 0, .bool false]) (vs := [.int .i64 f, .bool x]) tabOk rfl rfl (by kernel_rfl) rfl ⟨_, _, rfl, rfl, Nat.le_of_ble_eq_true rfl, _, _, rfl, rfl, Nat.le_of_ble_eq_true rfl, rfl⟩ (by decide) ?_))
         | (refine s_is ?_; first
         | (refine s_isret ?_; first
         | exact f_r1 rfl (res_t rfl) (M, O) ⟨hM, hO⟩ rfl (fun w h => ((h.sel 6 [4, 5, 0, 1, 2, 3] (by decide)).mask [true, true, true, true, true, false])))
         | (refine s_isw ?_; first
         | refine c_seq ?_
         | refine c_ret ?_
         | (refine s_iscond ?_; first
         | (refine c_true rfl (by first | with_reducible rfl | with_reducible assumption | ((with_reducible refine decide_eq_true ?_); first | with_reducible rfl | with_reducible assumption | omega)) ?_)))
         | refine x_then_ret ?_
         | refine x_block_ret _ ?_)
         | (refine z_isnil ?_; first
         | refine z_mono0n ?_)
         | (refine z_isop ?_; first
         | (refine z_isbin ?_; first
         | (refine z_isb .eql ?_; first
         | refine o_beq tabOk rfl rfl rfl (by decide) ?_))
         | (refine z_isload ?_; first
         | (refine z_ld1 tabOk rfl rfl ?_; first
         | refine o_loadm tabOk rfl rfl rfl (by repeat' (first | exact List.mem_cons_self | apply List.mem_cons_of_mem)) (by first | rfl | rfl) (by decide) ?_))
         | refine o_move rfl (by decide) ?_
         | refine o_assign rfl (by decide) ?_
         | refine o_field0 tabOk rfl rfl rfl rfl rfl (by decide) ?_))
  · by_cases h5 : k = 5
    · cases hon : onM M s p with
      | true =>
        have h1 := sunbind_y sb b m o M O s p hon
        have h2 := yunbind_y t M O hM s p hon
        generalize onM O s p = u at *
        cases u
        all_goals repeat' (first
         | ((refine z_isdst 52 ?_; refine z_sel rfl 6 [1, 2, 3, 4, 5, 0] (by decide) ?_; refine o_calla Try.func37 rfl rfl rfl (h1 _) (by decide) fun _ _ => ?_))
         | ((refine z_isdst 61 ?_; refine z_sel rfl 6 [4, 0, 1, 2, 3, 5] (by decide) ?_; refine o_calla Try.func50 rfl rfl rfl (h2 _) (by decide) fun _ _ => ?_))
         | ((refine z_isdst 5 ?_; refine o_boxa (vs := [.int .i64 k, .int .i64 s, .int .i64 p, .int .i64 f, .bool x]) rfl rfl (by decide) fun g5 => ?_))
         | (refine s_is ?_; first
         | (refine s_isret ?_; first
         | (exact f_r1 rfl (res_t rfl) (delM M s p, delM O s p) ⟨hM.del _ _, hO.del _ _⟩ rfl (fun w h => by simp only [fronts, moveF, selF, sel1, nth, List.drop_succ_cons, List.drop_zero, List.eraseIdx_cons_zero, List.eraseIdx_cons_succ, maskL, List.cons_append, List.nil_append, List.append_eq, List.set_cons_zero, List.set_cons_succ] at h; exact ((h.sel 6 [1, 2, 3, 4, 0, 5] (by decide)).mask [true, true, true, true, true, false]))))
         | (refine s_isw ?_; first
         | refine c_seq ?_
         | refine c_block ?_
         | refine c_region ?_
         | refine c_ret ?_
         | (refine s_iscond ?_; first
         | (refine c_true rfl (by first | with_reducible rfl | with_reducible assumption | ((with_reducible refine decide_eq_true ?_); first | with_reducible rfl | with_reducible assumption | omega)) ?_)
         | (refine c_false rfl (by first | with_reducible rfl | with_reducible assumption | ((with_reducible refine decide_eq_false ?_); first | with_reducible assumption | omega)) ?_)))
         | refine x_then_ret ?_
         | refine x_block_ret _ ?_)
         | (refine z_isg1 ?_; first
         | (refine z_want1 rfl rfl (by first | (simp only [Bool.not_eq_true', decide_eq_false_iff_not]; omega) | (with_reducible assumption) | (rw [decide_eq_false] <;> (first | omega | with_reducible rfl)) | (rw [decide_eq_true] <;> (first | omega | with_reducible rfl)) | (simp; done) | (simp; omega)) ?_))
         | (refine z_isnil ?_; first
         | refine z_list ?_)
         | (refine z_isop ?_; first
         | (refine z_isbin ?_; first
         | (refine z_isb .eql ?_; first
         | refine o_eq rfl rfl (by decide) ?_
         | refine o_beq tabOk rfl rfl rfl (by decide) ?_))
         | (refine z_isload ?_; first
         | (refine z_ld1 tabOk rfl rfl ?_; first
         | refine o_loadm tabOk rfl rfl rfl (by repeat' (first | exact List.mem_cons_self | apply List.mem_cons_of_mem)) (by first | rfl | rfl) (by decide) ?_))
         | (refine z_ispick ?_; first
         | (refine o_pick1 rfl (by first | (simp only [Bool.not_eq_true', decide_eq_false_iff_not]; omega) | (with_reducible assumption) | (rw [decide_eq_false] <;> (first | omega | with_reducible rfl)) | (rw [decide_eq_true] <;> (first | omega | with_reducible rfl)) | (simp; done) | (simp; omega)) rfl (by decide) ?_))
         | refine o_move rfl (by decide) ?_
         | refine o_assign rfl (by decide) ?_
         | refine o_extract rfl rfl (by decide) ?_
         | refine o_field0 tabOk rfl rfl rfl rfl rfl (by decide) ?_))
      | false =>
        have h1 := sunbind_n sb b m o M O s p hon
        repeat' (first
         | ((refine z_isdst 52 ?_; refine z_sel rfl 6 [1, 2, 3, 4, 5, 0] (by decide) ?_; refine o_calla Try.func37 rfl rfl rfl (h1 _) (by decide) fun _ _ => ?_))
         | ((refine z_isdst 61 ?_; refine o_calla Try.func50 rfl rfl rfl (yunbind_n t M hM s p hon _ (Rds.pre (cells_rds 4 rfl))) (by decide) fun _ _ => ?_))
         | ((refine z_isdst 5 ?_; refine o_boxa (vs := [.int .i64 k, .int .i64 s, .int .i64 p, .int .i64 f, .bool x]) rfl rfl (by decide) fun g5 => ?_))
         | (refine s_is ?_; first
         | (refine s_isret ?_; first
         | exact f_r1 rfl (res_t rfl) (M, O) ⟨hM, hO⟩ rfl (fun w h => ((h.sel 6 [0, 1, 2, 3, 4, 5] (by decide)).mask [true, true, true, true, true, false])))
         | (refine s_isw ?_; first
         | refine c_seq ?_
         | refine c_block ?_
         | refine c_region ?_
         | refine c_ret ?_
         | (refine s_iscond ?_; first
         | (refine c_true rfl (by first | with_reducible rfl | with_reducible assumption | ((with_reducible refine decide_eq_true ?_); first | with_reducible rfl | with_reducible assumption | omega)) ?_)
         | (refine c_false rfl (by first | with_reducible rfl | with_reducible assumption | ((with_reducible refine decide_eq_false ?_); first | with_reducible assumption | omega)) ?_)))
         | refine x_then_ret ?_
         | refine x_block_ret _ ?_)
         | (refine z_isg1 ?_; first
         | (refine z_want1 rfl rfl (by first | (simp only [Bool.not_eq_true', decide_eq_false_iff_not]; omega) | (with_reducible assumption) | (rw [decide_eq_false] <;> (first | omega | with_reducible rfl)) | (rw [decide_eq_true] <;> (first | omega | with_reducible rfl)) | (simp; done) | (simp; omega)) ?_))
         | (refine z_isnil ?_; first
         | refine z_list ?_)
         | (refine z_isop ?_; first
         | (refine z_isbin ?_; first
         | (refine z_isb .eql ?_; first
         | refine o_eq rfl rfl (by decide) ?_
         | refine o_beq tabOk rfl rfl rfl (by decide) ?_))
         | (refine z_isload ?_; first
         | (refine z_ld1 tabOk rfl rfl ?_; first
         | refine o_loadm tabOk rfl rfl rfl (by repeat' (first | exact List.mem_cons_self | apply List.mem_cons_of_mem)) (by first | rfl | rfl) (by decide) ?_))
         | (refine z_ispick ?_; first
         | (refine o_pick1 rfl (by first | (simp only [Bool.not_eq_true', decide_eq_false_iff_not]; omega) | (with_reducible assumption) | (rw [decide_eq_false] <;> (first | omega | with_reducible rfl)) | (rw [decide_eq_true] <;> (first | omega | with_reducible rfl)) | (simp; done) | (simp; omega)) rfl (by decide) ?_))
         | refine o_move rfl (by decide) ?_
         | refine o_assign rfl (by decide) ?_
         | refine o_extract rfl rfl (by decide) ?_
         | refine o_field0 tabOk rfl rfl rfl rfl rfl (by decide) ?_))
    · by_cases h67 : k = 6 ∨ k = 7
      · skip
        repeat' (first
         | ((refine z_isdst 5 ?_; refine o_boxa (vs := [.int .i64 k, .int .i64 s, .int .i64 p, .int .i64 f, .bool x]) rfl rfl (by decide) fun g5 => ?_))
         | (refine s_is ?_; first
         | refine c_join (x := .seq (.region 12 _ _) _) (X := Unit) (fun _ => True) (fun _ => [(0, .pointer (some ⟨sb, 0, none⟩)), (1, .pointer (some ⟨t, 0, none⟩)), (5, .pointer (some ⟨g5, 0, none⟩)), (72, .bool true)]) (fun _ => cells g5 63 [.int .i64 k, .int .i64 s, .int .i64 p, .int .i64 f, .bool x] :: cells sb 89 [.pointer (some ⟨b, 0, none⟩), .map (some o)] :: cells b 78 [.map (some m)] :: mpc m (M) :: mpc o (O) :: cells t 61 (xs (M) ++ os (O)) :: fr) (hold ?_) (fun _ _ => hold ?_)
         | (refine s_isw ?_; first
         | refine c_seq ?_
         | refine c_block ?_
         | refine c_region ?_
         | (refine s_iscond ?_; first
         | (refine c_false rfl (by first | with_reducible rfl | with_reducible assumption | ((with_reducible refine decide_eq_false ?_); first | with_reducible assumption | omega)) ?_))))
         | (refine z_isnil ?_; first
         | refine z_list ?_)
         | (refine z_isop ?_; first
         | (refine z_isbin ?_; first
         | (refine z_isb .eql ?_; first
         | refine o_eq rfl rfl (by decide) ?_))
         | (refine z_isload ?_; first
         | (refine z_ld1 tabOk rfl rfl ?_; first
         | refine o_loadm tabOk rfl rfl rfl (by repeat' (first | exact List.mem_cons_self | apply List.mem_cons_of_mem)) (by first | rfl | rfl) (by decide) ?_))
         | refine o_assign rfl (by decide) ?_
         | refine o_field0 tabOk rfl rfl rfl rfl rfl (by decide) ?_))
        · refine Hold.go ?_
          rcases h67 with rfl | rfl
          all_goals repeat' (first
           | (refine s_is ?_; first
           | (refine s_ismeet ?_; first
           | exact c_meet () trivial ⟨rfl, rfl, rfl, rfl, trivial⟩ (fun w h => h))
           | (refine s_isw ?_; first
           | refine c_seq ?_
           | refine c_region ?_
           | refine c_skip ?_
           | (refine s_iscond ?_; first
           | (refine c_true rfl (by first | with_reducible rfl | with_reducible assumption | ((with_reducible refine decide_eq_true ?_); first | with_reducible rfl | with_reducible assumption | omega)) ?_)
           | (refine c_false rfl (by first | with_reducible rfl | with_reducible assumption | ((with_reducible refine decide_eq_false ?_); first | with_reducible assumption | omega)) ?_))))
           | (refine z_isnil ?_; first
           | refine z_list ?_)
           | (refine z_isop ?_; first
           | (refine z_isbin ?_; first
           | (refine z_isb .eql ?_; first
           | refine o_eq rfl rfl (by decide) ?_))
           | refine o_assign rfl (by decide) ?_))
        · refine Hold.go ?_
          have hget := fun fr hrd => xget_c t M hM s p fr hrd
          cases hon : onM M s p with
          | true =>
            have hi := hM s p (onM_iff.1 hon)
            have h1 := sfill_y sb b m o M O s p hon
            have hWO := hO.fill hon
            rw [hon] at hget
            generalize fM M s p = f0 at *
            generalize wM M s p = w0 at *
            have hff : decide (f0 = f0) = true := decide_eq_true rfl
            obtain ⟨a, rfl⟩ : ∃ n : Nat, s = n := ⟨s.toNat, by have := hi.1; omega⟩
            obtain ⟨c, rfl⟩ : ∃ n : Nat, p = n := ⟨p.toNat, by have := hi.2.2.1; omega⟩
            have ha : a < 64 := by have := hi.2.1; omega
            have hc : c < 32 := by have := hi.2.2.2; omega
            have hel := zo_el M O ha hc
            have hset := zo_on M O ha hc (f0, w0)
            cases w0
            all_goals repeat' (first
             | ((refine z_isdst 81 ?_; refine z_sel rfl 6 [1, 2, 3, 4, 5, 0] (by decide) ?_; refine o_calla Try.func38 rfl rfl rfl (h1 _) (by decide) fun _ _ => ?_))
             | ((refine z_isdst 13 ?_; refine m_alloca (e := 27) (vs := [.bool false, .int .i64 0, .bool false]) (by kernel_rfl) ?_))
             | ((refine z_isdst 91 ?_; refine o_callx0 Try.func13 rfl rfl rfl (hget _ (Rds.pre (cells_rds 5 rfl))) (by decide) (by decide) ?_))
             | refine z_mono1 (by decide) fun g13 => ?_
             | ((refine z_isdst 11 ?_; refine o_alloca (e := 36) (vs := [.int .i64 0, .bool false]) rfl (by kernel_rfl) (by decide) fun g11 => ?_))
             | (refine s_is ?_; first
             | (refine c_free0 ⟨[91], [13]⟩ [0, 1, 2, 3, 4, 5, 6, 8, 7, 9] (id := 15) mixed (by kernel_rfl) ?_)
             | (refine c_monot 9 (id := 17) mixed (by kernel_rfl) rfl ?_)
             | (refine s_isret ?_; first
             | (exact f_r1 rfl (res_t rfl) (M, upM O a c (f0, _)) ⟨hM, hWO⟩ rfl (fun w h => by simp only [fronts, moveF, selF, sel1, nth, List.drop_succ_cons, List.drop_zero, List.eraseIdx_cons_zero, List.eraseIdx_cons_succ, maskL, List.cons_append, List.nil_append, List.append_eq, List.set_cons_zero, List.set_cons_succ] at h; exact ((h.sel 8 [2, 3, 4, 5, 6, 0, 1, 7] (by decide)).mask [true, true, true, true, true, false, false, false]))))
             | (refine s_isw ?_; first
             | refine c_seq ?_
             | refine c_region ?_
             | refine c_ret ?_
             | (refine s_iscond ?_; first
             | (refine c_true rfl (by first | with_reducible rfl | with_reducible assumption | ((with_reducible refine decide_eq_true ?_); first | with_reducible rfl | with_reducible assumption | omega)) ?_)))
             | refine x_then_ret ?_
             | refine x_block_ret _ ?_
             | refine z_tailm ?_)
             | (refine z_isg1 ?_; first
             | (refine z_want1 rfl rfl (by first | with_reducible rfl | with_reducible assumption | ((with_reducible refine decide_eq_true ?_); first | with_reducible rfl | with_reducible assumption | omega)) ?_)
             | (refine z_want1 rfl rfl (by first | (simp only [Bool.not_eq_true', decide_eq_false_iff_not]; omega) | (with_reducible assumption) | (rw [decide_eq_false] <;> (first | omega | with_reducible rfl)) | (rw [decide_eq_true] <;> (first | omega | with_reducible rfl)) | (simp; done) | (simp; omega)) ?_))
             | (refine z_isnil ?_; first
             | refine z_list ?_
             | refine z_mono0 ?_)
             | (refine z_isop ?_; first
             | refine m_inib tabOk (by decide) rfl (by decide) (fun _ => rfl) rfl rfl rfl rfl ?_
             | refine o_indexn tabOk rfl rfl rfl rfl (by omega) (by omega) (by decide) ?_
             | (refine z_isbin ?_; first
             | (refine z_isb .eql ?_; first
             | refine o_eq rfl rfl (by decide) ?_
             | refine o_beq tabOk rfl rfl rfl (by decide) ?_))
             | (refine z_isload ?_; first
             | (refine z_ld1 tabOk rfl rfl ?_; first
             | refine o_loadm tabOk rfl rfl rfl (by repeat' (first | exact List.mem_cons_self | apply List.mem_cons_of_mem)) (by first | rfl | rfl) (by decide) ?_))
             | (refine z_isstore ?_; first
             | (refine o_store_at rfl 6 tabOk rfl rfl rfl rfl rfl rfl hel hset ?_)
             | (refine z_stw rfl ?_; first
             | ((refine z_sti 0 rfl rfl ?_; refine o_storeb0 rfl tabOk rfl rfl rfl (by first | rfl | rfl) (by first | rfl | rfl) (by first | rfl | rfl) ?_))))
             | (refine z_ispick ?_; first
             | (refine o_pick1 rfl (by first | with_reducible rfl | with_reducible assumption | ((with_reducible refine decide_eq_true ?_); first | with_reducible rfl | with_reducible assumption | omega)) rfl (by decide) ?_)
             | (refine o_pick1 rfl (by first | (simp only [Bool.not_eq_true', decide_eq_false_iff_not]; omega) | (with_reducible assumption) | (rw [decide_eq_false] <;> (first | omega | with_reducible rfl)) | (rw [decide_eq_true] <;> (first | omega | with_reducible rfl)) | (simp; done) | (simp; omega)) rfl (by decide) ?_))
             | refine o_move rfl (by decide) ?_
             | refine o_assign rfl (by decide) ?_
             | refine o_nil rfl (by decide) ?_
             | refine o_extract rfl rfl (by decide) ?_
             | refine o_field0 tabOk rfl rfl rfl rfl rfl (by decide) ?_))
          | false =>
            have h1 := sfill_n sb b m o M O s p hon
            rw [hon] at hget
            generalize fM M s p = f0 at *
            generalize wM M s p = w0 at *
            have hff : decide (f0 = f0) = true := decide_eq_true rfl
            cases w0
            all_goals repeat' (first
             | ((refine z_isdst 81 ?_; refine z_sel rfl 6 [1, 2, 3, 4, 5, 0] (by decide) ?_; refine o_calla Try.func38 rfl rfl rfl (h1 _) (by decide) fun _ _ => ?_))
             | ((refine z_isdst 13 ?_; refine m_alloca (e := 27) (vs := [.bool false, .int .i64 0, .bool false]) (by kernel_rfl) ?_))
             | ((refine z_isdst 91 ?_; refine o_callx0 Try.func13 rfl rfl rfl (hget _ (Rds.pre (cells_rds 5 rfl))) (by decide) (by decide) ?_))
             | refine z_mono1 (by decide) fun g13 => ?_
             | ((refine z_isdst 11 ?_; refine o_alloca (e := 36) (vs := [.int .i64 0, .bool false]) rfl (by kernel_rfl) (by decide) fun g11 => ?_))
             | (refine s_is ?_; first
             | (refine c_free0 ⟨[91], [13]⟩ [0, 1, 2, 3, 4, 5, 6, 8, 7, 9] (id := 15) mixed (by kernel_rfl) ?_)
             | (refine s_isret ?_; first
             | (exact f_r1 rfl (res_t rfl) (M, O) ⟨hM, hO⟩ rfl (fun w h => by simp only [fronts, moveF, selF, sel1, nth, List.drop_succ_cons, List.drop_zero, List.eraseIdx_cons_zero, List.eraseIdx_cons_succ, maskL, List.cons_append, List.nil_append, List.append_eq, List.set_cons_zero, List.set_cons_succ] at h; exact ((h.sel 8 [2, 3, 4, 5, 6, 0, 1, 7] (by decide)).mask [true, true, true, true, true, false, false, false]))))
             | (refine s_isw ?_; first
             | refine c_seq ?_
             | refine c_region ?_
             | refine c_skip ?_
             | refine c_ret ?_
             | (refine s_iscond ?_; first
             | (refine c_true rfl (by first | with_reducible rfl | with_reducible assumption | ((with_reducible refine decide_eq_true ?_); first | with_reducible rfl | with_reducible assumption | omega)) ?_)
             | (refine c_false rfl (by first | with_reducible rfl | with_reducible assumption | ((with_reducible refine decide_eq_false ?_); first | with_reducible assumption | omega)) ?_)))
             | refine x_then_ret ?_
             | refine x_block_ret _ ?_)
             | (refine z_isg1 ?_; first
             | (refine z_want1 rfl rfl (by first | with_reducible rfl | with_reducible assumption | ((with_reducible refine decide_eq_true ?_); first | with_reducible rfl | with_reducible assumption | omega)) ?_)
             | (refine z_want1 rfl rfl (by first | (simp only [Bool.not_eq_true', decide_eq_false_iff_not]; omega) | (with_reducible assumption) | (rw [decide_eq_false] <;> (first | omega | with_reducible rfl)) | (rw [decide_eq_true] <;> (first | omega | with_reducible rfl)) | (simp; done) | (simp; omega)) ?_))
             | (refine z_isnil ?_; first
             | refine z_list ?_)
             | (refine z_isop ?_; first
             | refine m_inib tabOk (by decide) rfl (by decide) (fun _ => rfl) rfl rfl rfl rfl ?_
             | (refine z_isbin ?_; first
             | (refine z_isb .eql ?_; first
             | refine o_eq rfl rfl (by decide) ?_
             | refine o_beq tabOk rfl rfl rfl (by decide) ?_))
             | (refine z_isload ?_; first
             | (refine z_ld1 tabOk rfl rfl ?_; first
             | refine o_loadm tabOk rfl rfl rfl (by repeat' (first | exact List.mem_cons_self | apply List.mem_cons_of_mem)) (by first | rfl | rfl) (by decide) ?_))
             | (refine z_isstore ?_; first
             | (refine z_stw rfl ?_; first
             | ((refine z_sti 0 rfl rfl ?_; refine o_storeb0 rfl tabOk rfl rfl rfl (by first | rfl | rfl) (by first | rfl | rfl) (by first | rfl | rfl) ?_))))
             | (refine z_ispick ?_; first
             | (refine o_pick1 rfl (by first | with_reducible rfl | with_reducible assumption | ((with_reducible refine decide_eq_true ?_); first | with_reducible rfl | with_reducible assumption | omega)) rfl (by decide) ?_)
             | (refine o_pick1 rfl (by first | (simp only [Bool.not_eq_true', decide_eq_false_iff_not]; omega) | (with_reducible assumption) | (rw [decide_eq_false] <;> (first | omega | with_reducible rfl)) | (rw [decide_eq_true] <;> (first | omega | with_reducible rfl)) | (simp; done) | (simp; omega)) rfl (by decide) ?_))
             | refine o_move rfl (by decide) ?_
             | refine o_assign rfl (by decide) ?_
             | refine o_nil rfl (by decide) ?_
             | refine o_extract rfl rfl (by decide) ?_
             | refine o_field0 tabOk rfl rfl rfl rfl rfl (by decide) ?_))
      · by_cases h8 : k = 8
        · by_cases hs : 0 ≤ s
          · have hro := row_out (O := O) hM hs
            have hle := prs_le (dof M O s 0) 2048
            have h1 : ∀ c5 : Chunk, Does Try.prog 40 [.pointer (some ⟨sb, 0, none⟩), .int .i64 s] ([mpc m (M), mpc o (O), cells t 61 (xs (M) ++ os (O))] ++ (c5 :: cells sb 89 [.pointer (some ⟨b, 0, none⟩), .map (some o)] :: cells b 78 [.map (some m)] :: fr)) (fun _ : Option Addr × Nat => True) (fun z => .slice z.1 (prs (dof M O s 0) 2048).length z.2) (fun z => [own z.1 z.2 72 2 (prs (dof M O s 0) 2048).length (pcs (prs (dof M O s 0) 2048)), mpc m (dls M (row M s)), mpc o (dls O (row M s)), cells t 61 (xs (M) ++ os (O))] ++ (c5 :: cells sb 89 [.pointer (some ⟨b, 0, none⟩), .map (some o)] :: cells b 78 [.map (some m)] :: fr)) := fun c5 => by
              have h := sempty_c sb b m o M O hM s (cells t 61 (xs (M) ++ os (O)) :: c5 :: fr)
              rw [hro] at h
              exact (does_perm h (sel_perm _ 6 [4, 5, 0, 1, 2, 3] (by decide))).post fun z _ => ⟨z, trivial, rfl, fun B w hS => hS.sel 7 [0, 3, 4, 5, 6, 1, 2] (by decide)⟩
            have h2 : ∀ (c5 : Chunk) (z : Option Addr × Nat), Does Try.prog 51 [.pointer (some ⟨t, 0, none⟩), .int .i64 s, .int .i64 0] ([own z.1 z.2 72 2 (prs (dof M O s 0) 2048).length (pcs (prs (dof M O s 0) 2048)), mpc m (dls M (row M s)), mpc o (dls O (row M s)), cells t 61 (xs (M) ++ os (O))] ++ (c5 :: cells sb 89 [.pointer (some ⟨b, 0, none⟩), .map (some o)] :: cells b 78 [.map (some m)] :: fr)) (fun _ : Option Addr × Nat => True) (fun z2 => .slice z2.1 (prs (dof M O s 0) 2048).length z2.2) (fun z2 => [own z2.1 z2.2 45 2 (prs (dof M O s 0) 2048).length (pcs (prs (dof M O s 0) 2048)), own z.1 z.2 72 2 (prs (dof M O s 0) 2048).length (pcs (prs (dof M O s 0) 2048)), mpc m (dls M (row M s)), mpc o (dls O (row M s)), cells t 61 (xs (dls M (row M s)) ++ os (dls O (row M s)))] ++ (c5 :: cells sb 89 [.pointer (some ⟨b, 0, none⟩), .map (some o)] :: cells b 78 [.map (some m)] :: fr)) := fun c5 z => by
              have h := ydrop_c t M O hM s 0 (own z.1 z.2 72 2 (prs (dof M O s 0) 2048).length (pcs (prs (dof M O s 0) 2048)) :: mpc m (dls M (row M s)) :: mpc o (dls O (row M s)) :: c5 :: cells sb 89 [.pointer (some ⟨b, 0, none⟩), .map (some o)] :: cells b 78 [.map (some m)] :: fr)
              rw [← row_rm hM hs, ← row_rmO hM hO hs] at h
              exact (does_perm h (sel_perm _ 4 [3, 0, 1, 2] (by decide))).post fun z2 _ => ⟨z2, trivial, rfl, fun B w hS => hS.sel 5 [0, 2, 3, 4, 1] (by decide)⟩
            repeat' (first
             | ((refine s_sel 6 [3, 4, 5, 0, 1, 2] (by decide) ?_; refine c_free3 ⟨[135, 139, 140], []⟩ [0, 1, 2, 4, 5, 6, 3, 7, 8, 9] (id := 22) mixed (by kernel_rfl) ?_))
             | ((refine z_isdst 135 ?_; refine o_callx (po := fun z : Option Addr × Nat => [own z.1 z.2 72 2 (prs (dof M O s 0) 2048).length (pcs (prs (dof M O s 0) 2048)), mpc m (dls M (row M s)), mpc o (dls O (row M s)), cells t 61 (xs (M) ++ os (O))]) Try.func40 rfl rfl rfl (h1 _) (by decide) (by decide) fun z _ => ?_))
             | ((refine z_isdst 139 ?_; refine o_callx (po := fun z2 : Option Addr × Nat => [own z2.1 z2.2 45 2 (prs (dof M O s 0) 2048).length (pcs (prs (dof M O s 0) 2048)), own z.1 z.2 72 2 (prs (dof M O s 0) 2048).length (pcs (prs (dof M O s 0) 2048)), mpc m (dls M (row M s)), mpc o (dls O (row M s)), cells t 61 (xs (dls M (row M s)) ++ os (dls O (row M s)))]) Try.func51 rfl rfl rfl (h2 _ z) (by decide) (by decide) fun z2 _ => ?_))
             | ((refine z_isdst 140 ?_; refine o_callx0 Try.func32 rfl rfl rfl (places_c (prs (dof M O s 0) 2048) _ _ _ _ _ (own_rds 1 rfl) (own_rds 0 rfl) (by omega)) (by decide) (by decide) ?_))
             | ((refine z_isdst 5 ?_; refine o_boxa (vs := [.int .i64 k, .int .i64 s, .int .i64 p, .int .i64 f, .bool x]) rfl rfl (by decide) fun g5 => ?_))
             | (refine s_is ?_; first
             | (refine s_isret ?_; first
             | exact f_r1 rfl (res_t rfl) (dls M (row M s), dls O (row M s)) ⟨hM.dls _, hO.dls _⟩ rfl (fun w h => ((h.sel 8 [6, 7, 2, 3, 4, 0, 1, 5] (by decide)).mask [true, true, true, true, true, false, false, false])))
             | (refine s_isw ?_; first
             | refine c_seq ?_
             | refine c_block ?_
             | refine c_region ?_
             | refine c_skip ?_
             | refine c_ret ?_
             | (refine s_iscond ?_; first
             | (refine c_true rfl (by first | with_reducible rfl | with_reducible assumption | ((with_reducible refine decide_eq_true ?_); first | with_reducible rfl | with_reducible assumption | omega)) ?_)
             | (refine c_false rfl (by first | with_reducible rfl | with_reducible assumption | ((with_reducible refine decide_eq_false ?_); first | with_reducible assumption | omega)) ?_)))
             | refine x_then_ret ?_
             | refine x_block_ret _ ?_)
             | (refine z_isnil ?_; first
             | refine z_mono0n ?_
             | refine z_list ?_)
             | (refine z_isop ?_; first
             | (refine z_isbin ?_; first
             | (refine z_isb .eql ?_; first
             | refine o_eq rfl rfl (by decide) ?_)
             | (refine z_isb .lss ?_; first
             | refine o_lt rfl rfl (by decide) ?_))
             | (refine z_isload ?_; first
             | (refine z_ld1 tabOk rfl rfl ?_; first
             | refine o_loadm tabOk rfl rfl rfl (by repeat' (first | exact List.mem_cons_self | apply List.mem_cons_of_mem)) (by first | rfl | rfl) (by decide) ?_))
             | refine o_move rfl (by decide) ?_
             | refine o_assign rfl (by decide) ?_
             | refine o_field0 tabOk rfl rfl rfl rfl rfl (by decide) ?_))
          · have h1 := sempty_c sb b m o M O hM s
            rw [row_no hM hs, flt_nil, dls_nil, dls_nil] at h1
            repeat' (first
             | ((refine z_isdst 129 ?_; refine z_sel rfl 6 [1, 2, 3, 4, 5, 0] (by decide) ?_; refine o_calla Try.func40 rfl rfl rfl (h1 _) (by decide) fun z _ => ?_))
             | ((refine z_isdst 5 ?_; refine o_boxa (vs := [.int .i64 k, .int .i64 s, .int .i64 p, .int .i64 f, .bool x]) rfl rfl (by decide) fun g5 => ?_))
             | (refine s_is ?_; first
             | (refine s_isret ?_; first
             | exact f_r1 rfl (res_t rfl) (M, O) ⟨hM, hO⟩ rfl (fun w h => ((h.sel 7 [1, 2, 3, 4, 5, 0, 6] (by decide)).mask [true, true, true, true, true, false, false])))
             | (refine s_isw ?_; first
             | refine c_seq ?_
             | refine c_block ?_
             | refine c_region ?_
             | refine c_ret ?_
             | (refine s_iscond ?_; first
             | (refine c_true rfl (by first | with_reducible rfl | with_reducible assumption | ((with_reducible refine decide_eq_true ?_); first | with_reducible rfl | with_reducible assumption | omega)) ?_)
             | (refine c_false rfl (by first | with_reducible rfl | with_reducible assumption | ((with_reducible refine decide_eq_false ?_); first | with_reducible assumption | omega)) ?_)))
             | refine x_then_ret ?_
             | refine x_block_ret _ ?_)
             | (refine z_isnil ?_; first
             | refine z_list ?_)
             | (refine z_isop ?_; first
             | (refine z_isbin ?_; first
             | (refine z_isb .eql ?_; first
             | refine o_eq rfl rfl (by decide) ?_)
             | (refine z_isb .lss ?_; first
             | refine o_lt rfl rfl (by decide) ?_))
             | (refine z_isload ?_; first
             | (refine z_ld1 tabOk rfl rfl ?_; first
             | refine o_loadm tabOk rfl rfl rfl (by repeat' (first | exact List.mem_cons_self | apply List.mem_cons_of_mem)) (by first | rfl | rfl) (by decide) ?_))
             | (refine z_isbi ?_; first
             | refine o_len tabOk rfl rfl (by decide) ?_)
             | refine o_move rfl (by decide) ?_
             | refine o_assign rfl (by decide) ?_
             | refine o_field0 tabOk rfl rfl rfl rfl rfl (by decide) ?_))
        · by_cases h9 : k = 9
          · have hro := uss_out M O f
            have hle := prs_le (dof M O (-1) f) 2048
            have h1 : ∀ c5 : Chunk, Does Try.prog 27 [.pointer (some ⟨sb, 0, none⟩), .int .i64 f] ([mpc m (M), mpc o (O), cells t 61 (xs (M) ++ os (O))] ++ (c5 :: cells sb 89 [.pointer (some ⟨b, 0, none⟩), .map (some o)] :: cells b 78 [.map (some m)] :: fr)) (fun _ : Option Addr × Nat => True) (fun z => .slice z.1 (prs (dof M O (-1) f) 2048).length z.2) (fun z => [own z.1 z.2 72 2 (prs (dof M O (-1) f) 2048).length (pcs (prs (dof M O (-1) f) 2048)), mpc m (dls M (uss M f)), mpc o (dls O (uss M f)), cells t 61 (xs (M) ++ os (O))] ++ (c5 :: cells sb 89 [.pointer (some ⟨b, 0, none⟩), .map (some o)] :: cells b 78 [.map (some m)] :: fr)) := fun c5 => by
              have h := srelease_c sb b m o M O hM f (cells t 61 (xs (M) ++ os (O)) :: c5 :: fr)
              rw [hro] at h
              exact (does_perm h (sel_perm _ 6 [4, 5, 0, 1, 2, 3] (by decide))).post fun z _ => ⟨z, trivial, rfl, fun B w hS => hS.sel 7 [0, 3, 4, 5, 6, 1, 2] (by decide)⟩
            have h2 : ∀ (c5 : Chunk) (z : Option Addr × Nat), Does Try.prog 51 [.pointer (some ⟨t, 0, none⟩), .int .i64 (-1), .int .i64 f] ([own z.1 z.2 72 2 (prs (dof M O (-1) f) 2048).length (pcs (prs (dof M O (-1) f) 2048)), mpc m (dls M (uss M f)), mpc o (dls O (uss M f)), cells t 61 (xs (M) ++ os (O))] ++ (c5 :: cells sb 89 [.pointer (some ⟨b, 0, none⟩), .map (some o)] :: cells b 78 [.map (some m)] :: fr)) (fun _ : Option Addr × Nat => True) (fun z2 => .slice z2.1 (prs (dof M O (-1) f) 2048).length z2.2) (fun z2 => [own z2.1 z2.2 45 2 (prs (dof M O (-1) f) 2048).length (pcs (prs (dof M O (-1) f) 2048)), own z.1 z.2 72 2 (prs (dof M O (-1) f) 2048).length (pcs (prs (dof M O (-1) f) 2048)), mpc m (dls M (uss M f)), mpc o (dls O (uss M f)), cells t 61 (xs (dls M (uss M f)) ++ os (dls O (uss M f)))] ++ (c5 :: cells sb 89 [.pointer (some ⟨b, 0, none⟩), .map (some o)] :: cells b 78 [.map (some m)] :: fr)) := fun c5 z => by
              have h := ydrop_c t M O hM (-1) f (own z.1 z.2 72 2 (prs (dof M O (-1) f) 2048).length (pcs (prs (dof M O (-1) f) 2048)) :: mpc m (dls M (uss M f)) :: mpc o (dls O (uss M f)) :: c5 :: cells sb 89 [.pointer (some ⟨b, 0, none⟩), .map (some o)] :: cells b 78 [.map (some m)] :: fr)
              rw [← uss_rm hM (-1) f, ← uss_rmO hM hO f] at h
              exact (does_perm h (sel_perm _ 4 [3, 0, 1, 2] (by decide))).post fun z2 _ => ⟨z2, trivial, rfl, fun B w hS => hS.sel 5 [0, 2, 3, 4, 1] (by decide)⟩
            repeat' (first
             | ((refine s_sel 6 [3, 4, 5, 0, 1, 2] (by decide) ?_; refine c_free3 ⟨[146, 150, 151], []⟩ [0, 1, 2, 4, 5, 6, 3, 7, 8, 9] (id := 24) mixed (by kernel_rfl) ?_))
             | ((refine z_isdst 146 ?_; refine o_callx (po := fun z : Option Addr × Nat => [own z.1 z.2 72 2 (prs (dof M O (-1) f) 2048).length (pcs (prs (dof M O (-1) f) 2048)), mpc m (dls M (uss M f)), mpc o (dls O (uss M f)), cells t 61 (xs (M) ++ os (O))]) Try.func27 rfl rfl rfl (h1 _) (by decide) (by decide) fun z _ => ?_))
             | ((refine z_isdst 150 ?_; refine o_callx (po := fun z2 : Option Addr × Nat => [own z2.1 z2.2 45 2 (prs (dof M O (-1) f) 2048).length (pcs (prs (dof M O (-1) f) 2048)), own z.1 z.2 72 2 (prs (dof M O (-1) f) 2048).length (pcs (prs (dof M O (-1) f) 2048)), mpc m (dls M (uss M f)), mpc o (dls O (uss M f)), cells t 61 (xs (dls M (uss M f)) ++ os (dls O (uss M f)))]) Try.func51 rfl rfl rfl (h2 _ z) (by decide) (by decide) fun z2 _ => ?_))
             | ((refine z_isdst 151 ?_; refine o_callx0 Try.func32 rfl rfl rfl (places_c (prs (dof M O (-1) f) 2048) _ _ _ _ _ (own_rds 1 rfl) (own_rds 0 rfl) (by omega)) (by decide) (by decide) ?_))
             | ((refine z_isdst 5 ?_; refine o_boxa (vs := [.int .i64 k, .int .i64 s, .int .i64 p, .int .i64 f, .bool x]) rfl rfl (by decide) fun g5 => ?_))
             | (refine s_is ?_; first
             | (refine s_isret ?_; first
             | exact f_r1 rfl (res_t rfl) (dls M (uss M f), dls O (uss M f)) ⟨hM.dls _, hO.dls _⟩ rfl (fun w h => ((h.sel 8 [6, 7, 2, 3, 4, 0, 1, 5] (by decide)).mask [true, true, true, true, true, false, false, false])))
             | (refine s_isw ?_; first
             | refine c_seq ?_
             | refine c_block ?_
             | refine c_region ?_
             | refine c_ret ?_
             | (refine s_iscond ?_; first
             | (refine c_true rfl (by first | with_reducible rfl | with_reducible assumption | ((with_reducible refine decide_eq_true ?_); first | with_reducible rfl | with_reducible assumption | omega)) ?_)
             | (refine c_false rfl (by first | with_reducible rfl | with_reducible assumption | ((with_reducible refine decide_eq_false ?_); first | with_reducible assumption | omega)) ?_)))
             | refine x_then_ret ?_
             | refine x_block_ret _ ?_)
             | (refine z_isnil ?_; first
             | refine z_mono0n ?_
             | refine z_list ?_)
             | (refine z_isop ?_; first
             | (refine z_isbin ?_; first
             | (refine z_isb .eql ?_; first
             | refine o_eq rfl rfl (by decide) ?_))
             | (refine z_isload ?_; first
             | (refine z_ld1 tabOk rfl rfl ?_; first
             | refine o_loadm tabOk rfl rfl rfl (by repeat' (first | exact List.mem_cons_self | apply List.mem_cons_of_mem)) (by first | rfl | rfl) (by decide) ?_))
             | refine o_move rfl (by decide) ?_
             | refine o_assign rfl (by decide) ?_
             | refine o_field0 tabOk rfl rfl rfl rfl rfl (by decide) ?_))
          · skip
            repeat' (first
             | ((refine z_isdst 5 ?_; refine o_boxa (vs := [.int .i64 k, .int .i64 s, .int .i64 p, .int .i64 f, .bool x]) rfl rfl (by decide) fun g5 => ?_))
             | (refine s_is ?_; first
             | (refine s_isret ?_; first
             | exact f_r1 rfl (res_t rfl) (M, O) ⟨hM, hO⟩ rfl (fun w h => ((h.sel 6 [1, 2, 3, 4, 5, 0] (by decide)).mask [true, true, true, true, true, false])))
             | (refine s_isw ?_; first
             | refine c_seq ?_
             | refine c_block ?_
             | refine c_region ?_
             | refine c_skip ?_
             | refine c_ret ?_
             | (refine s_iscond ?_; first
             | (refine c_false rfl (by first | with_reducible rfl | with_reducible assumption | ((with_reducible refine decide_eq_false ?_); first | with_reducible assumption | omega)) ?_))))
             | (refine z_isnil ?_; first
             | refine z_list ?_)
             | (refine z_isop ?_; first
             | (refine z_isbin ?_; first
             | (refine z_isb .eql ?_; first
             | refine o_eq rfl rfl (by decide) ?_))
             | (refine z_isload ?_; first
             | (refine z_ld1 tabOk rfl rfl ?_; first
             | refine o_loadm tabOk rfl rfl rfl (by repeat' (first | exact List.mem_cons_self | apply List.mem_cons_of_mem)) (by first | rfl | rfl) (by decide) ?_))
             | refine o_assign rfl (by decide) ?_
             | refine o_field0 tabOk rfl rfl rfl rfl rfl (by decide) ?_))
end Go.Proofs.Ytnckabgaichkkaa
