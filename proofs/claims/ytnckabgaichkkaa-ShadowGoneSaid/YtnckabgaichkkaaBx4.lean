/-
Bind: the law's own function: a deed in both.
-/
import Derived.Test.YtnckabgaichkkaaBi6
namespace Go.Proofs.Ytnckabgaichkkaa
set_option linter.unusedVariables false
set_option linter.unusedSimpArgs false
open Eng
theorem does_perm {P : Program} {f : FuncId} {vs : List Value} {pr pr' : List Chunk} {X : Type} {ok : X → Prop} {v : X → Value} {po : X → List Chunk} (h : Does P f vs pr ok v po) (hp : pr'.Perm pr) : Does P f vs pr' ok v po := fun w hw =>
  (h w (hw.perm hp)).mono fun e w' ⟨x, hok, he, hS⟩ => ⟨x, hok, he, ⟨hS.os, hS.tape, hS.output, hS.size, hS.all, hS.apart, fun c hc k hk => (hS.new c hc k hk).imp (fun ⟨d, hd, hk⟩ => ⟨d, hp.mem_iff.2 hd, hk⟩) id, fun k hk hno => hS.rest k hk fun d hd => hno d (hp.mem_iff.2 hd), hS.drawn⟩⟩
theorem mine_at (M : Mp) {s p fm : Int} (h : InP s p) (a c : Int) : mine M s p fm a c = (decide (a = s) && decide (c = p)) := by
  unfold mine
  rw [if_neg (by have := h.1; omega), decide_eq_false (show ¬ p < 0 by have := h.2.2.1; omega), Bool.false_or]
theorem del_rm {M : Mp} (hM : WM M) {s p fm : Int} (h : InP s p) : delM M s p = rmM M (dmf M s p fm) 2048 := by
  rw [show delM M s p = dls M [(s, p)] by rw [← dls_nil M, dls_add, dls_nil]; rfl]
  refine dls_rm hM fun a c hac => ?_
  have hi := hM a c hac
  rw [dmf_at ⟨hi.1, hi.2.2.1, hi.2.2.2⟩, onM_iff.2 hac, Bool.true_and, mine_at M h, List.mem_singleton, Bool.and_eq_true, decide_eq_true_eq, decide_eq_true_eq]
  constructor
  · intro e; cases e; exact ⟨rfl, rfl⟩
  · rintro ⟨rfl, rfl⟩; rfl
theorem pgs_neg {M : Mp} (hM : WM M) {s : Int} (h : ¬ 0 ≤ s) : pgs M s = [] := by
  cases e : pgs M s with
  | nil => rfl
  | cons x l =>
    have : x ∈ pgs M s := by rw [e]; exact List.mem_cons_self
    exact absurd (hM s x ((pgs_mem hM).1 this)).1 h
theorem row_neg {M : Mp} (hM : WM M) {s : Int} (h : ¬ 0 ≤ s) : dls M (row M s) = M := by
  unfold row
  rw [pgs_neg hM h]
  exact dls_nil M
attribute [local irreducible] Eng.Hold Eng.Z Eng.S Eng.cells Eng.old Eng.own Eng.mpc Eng.rgc Eng.onM Eng.fM Eng.wM Eng.upM Eng.delM
attribute [local irreducible] uss pcs pgs ilS dls row xs dmf rmM
set_option maxHeartbeats 8000000 in
theorem bdoes_c (b m t : Nat) (M : Mp) (hM : WM M) (k s p f : Int) (x : Bool) (fr : List Chunk) : Does Try.prog 11 [.pointer (some ⟨b, 0, none⟩), .pointer (some ⟨t, 0, none⟩), .agg #[.int .i64 k, .int .i64 s, .int .i64 p, .int .i64 f, .bool x]] (cells b 78 [.map (some m)] :: mpc m M :: cells t 31 (xs M) :: fr) (fun M' : Mp => WM M') (fun _ => .bool true) (fun M' => cells b 78 [.map (some m)] :: mpc m M' :: cells t 31 (xs M') :: fr) := by
  intro w hw
  refine f_enter Try.func11 rfl Try.ntmps11 rfl hw ?_
  by_cases hk : 0 ≤ k ∧ k ≤ 4
  · skip
    repeat' (first
     | ((refine z_isdst 5 ?_; refine o_boxa (vs := [.int .i64 k, .int .i64 s, .int .i64 p, .int .i64 f, .bool x]) rfl rfl (by decide) fun g5 => ?_))
     | (refine s_is ?_; first
     | refine c_join (x := .seq (.region 2 _ _) _) (X := Unit) (fun _ => True) (fun _ => [(0, .pointer (some ⟨b, 0, none⟩)), (1, .pointer (some ⟨t, 0, none⟩)), (5, .pointer (some ⟨g5, 0, none⟩)), (11, .bool true)]) (fun _ => cells g5 33 [.int .i64 k, .int .i64 s, .int .i64 p, .int .i64 f, .bool x] :: cells b 78 [.map (some m)] :: mpc m M :: cells t 31 (xs M) :: fr) (hold ?_) (fun _ _ => hold ?_)
     | (refine s_isw ?_; first
     | refine c_seq ?_
     | refine c_block ?_
     | refine c_region ?_))
     | (refine z_isnil ?_; first
     | refine z_list ?_)
     | (refine z_isop ?_; first
     | (refine z_isload ?_; first
     | (refine z_ld1 tabOk rfl rfl ?_; first
     | refine o_loadm tabOk rfl rfl rfl (by repeat' (first | exact List.mem_cons_self | apply List.mem_cons_of_mem)) (by first | rfl | rfl) (by decide) ?_))
     | refine o_assign rfl (by decide) ?_
     | refine o_field0 tabOk rfl rfl rfl rfl rfl (by decide) ?_))
    · refine Hold.go ?_
      have h5 : k = 0 ∨ k = 1 ∨ k = 2 ∨ k = 3 ∨ k = 4 := by omega
      rcases h5 with rfl | rfl | rfl | rfl | rfl
      all_goals repeat' (first
       | (refine s_is ?_; first
       | (refine s_ismeet ?_; first
       | exact c_meet () trivial ⟨rfl, rfl, rfl, rfl, trivial⟩ (fun w h => h))
       | (refine s_isw ?_; first
       | refine c_seq ?_
       | refine c_region ?_
       | refine c_skip ?_
       | (refine s_iscond ?_; first
       | (refine c_true rfl (by first | with_reducible rfl | with_reducible assumption | ((with_reducible refine decide_eq_true ?_); first | with_reducible rfl | with_reducible assumption | omega)) ?_)
       | (refine c_false rfl (by first | with_reducible rfl | with_reducible assumption | ((with_reducible refine decide_eq_false ?_); first | with_reducible assumption | omega)) ?_))))
       | (refine z_isnil ?_; first
       | refine z_list ?_)
       | (refine z_isop ?_; first
       | (refine z_isbin ?_; first
       | (refine z_isb .eql ?_; first
       | refine o_eq rfl rfl (by decide) ?_))
       | refine o_assign rfl (by decide) ?_))
    · refine Hold.go ?_
      by_cases hi : InP s p ∧ 0 ≤ f ∧ f < 512
      · have h1 : Does Try.prog 22 [.pointer (some ⟨b, 0, none⟩), .int .i64 s, .int .i64 p, .agg #[.int .i64 f, .bool x]] ([mpc m M, cells t 31 (xs M)] ++ (cells g5 33 [.int .i64 k, .int .i64 s, .int .i64 p, .int .i64 f, .bool x] :: cells b 78 [.map (some m)] :: fr)) (fun _ : Unit => True) (fun _ => .bool true) (fun _ => [mpc m (upM M s p (f, x)), cells t 31 (xs M)] ++ (cells g5 33 [.int .i64 k, .int .i64 s, .int .i64 p, .int .i64 f, .bool x] :: cells b 78 [.map (some m)] :: fr)) := (does_perm (bput_y b m M s p f x hi.1 hi.2 (cells t 31 (xs M) :: cells g5 33 [.int .i64 k, .int .i64 s, .int .i64 p, .int .i64 f, .bool x] :: fr)) (sel_perm _ 4 [3, 0, 1, 2] (by decide))).post fun _ _ => ⟨(), trivial, rfl, fun B w hS => hS.sel 4 [1, 2, 3, 0] (by decide)⟩
        have h2 : Does Try.prog 41 [.pointer (some ⟨t, 0, none⟩), .int .i64 s, .int .i64 p, .int .i64 f, .bool x] ([mpc m (upM M s p (f, x)), cells t 31 (xs M)] ++ (cells g5 33 [.int .i64 k, .int .i64 s, .int .i64 p, .int .i64 f, .bool x] :: cells b 78 [.map (some m)] :: fr)) (fun _ : Unit => True) (fun _ => .bool true) (fun _ => [mpc m (upM M s p (f, x)), cells t 31 (xs (upM M s p (f, x)))] ++ (cells g5 33 [.int .i64 k, .int .i64 s, .int .i64 p, .int .i64 f, .bool x] :: cells b 78 [.map (some m)] :: fr)) := (does_perm (xput_y t M s p f x hi.1 hi.2 (mpc m (upM M s p (f, x)) :: cells g5 33 [.int .i64 k, .int .i64 s, .int .i64 p, .int .i64 f, .bool x] :: cells b 78 [.map (some m)] :: fr)) (sel_perm _ 2 [1, 0] (by decide))).post fun _ _ => ⟨(), trivial, rfl, fun B w hS => hS.sel 2 [1, 0] (by decide)⟩
        repeat' (first
         | ((refine s_sel 4 [2, 3, 0, 1] (by decide) ?_; refine c_free2 ⟨[27, 37], []⟩ [0, 1, 2, 3, 4, 5, 6, 7, 8, 9, 11, 12, 13, 14, 15, 16, 17, 18, 19, 10, 20, 21, 22] (id := 7) mixed (by kernel_rfl) ?_))
         | ((refine z_isdst 27 ?_; refine o_callx (po := fun _ => [mpc m (upM M s p (f, x)), cells t 31 (xs M)]) Try.func22 rfl rfl rfl h1 (by decide) (by decide) fun _ _ => ?_))
         | ((refine z_isdst 37 ?_; refine o_callx (po := fun _ => [mpc m (upM M s p (f, x)), cells t 31 (xs (upM M s p (f, x)))]) Try.func41 rfl rfl rfl h2 (by decide) (by decide) fun _ _ => ?_))
         | refine z_mono0ww ?_
         | ((refine z_isdst 26 ?_; refine o_buildf (t := 36) (zs := [.int .i64 0, .bool false]) (vs := [.int .i64 f, .bool x]) tabOk rfl rfl (by kernel_rfl) rfl ⟨_, _, rfl, rfl, Nat.le_of_ble_eq_true rfl, _, _, rfl, rfl, Nat.le_of_ble_eq_true rfl, rfl⟩ (by decide) ?_))
         | (refine s_is ?_; first
         | (refine s_isret ?_; first
         | exact f_r1 rfl (res_t rfl) (upM M s p (f, x)) (hM.up hi.1 _) rfl (fun w h => ((h.sel 4 [3, 0, 1, 2] (by decide)).mask [true, true, true, false])))
         | (refine s_isw ?_; first
         | refine c_seq ?_
         | refine c_ret ?_
         | (refine s_iscond ?_; first
         | (refine c_true rfl (by first | with_reducible rfl | with_reducible assumption | ((with_reducible refine decide_eq_true ?_); first | with_reducible rfl | with_reducible assumption | omega)) ?_)))
         | refine x_then_ret ?_
         | refine x_block_ret _ ?_)
         | (refine z_isop ?_; first
         | (refine z_isbin ?_; first
         | (refine z_isb .eql ?_; first
         | refine o_beq tabOk rfl rfl rfl (by decide) ?_))
         | (refine z_isload ?_; first
         | (refine z_ld1 tabOk rfl rfl ?_; first
         | refine o_loadm tabOk rfl rfl rfl (by repeat' (first | exact List.mem_cons_self | apply List.mem_cons_of_mem)) (by first | rfl | rfl) (by decide) ?_))
         | refine o_move rfl (by decide) ?_
         | refine o_assign rfl (by decide) ?_
         | refine o_field0 tabOk rfl rfl rfl rfl rfl (by decide) ?_))
      · have h1 : Does Try.prog 22 [.pointer (some ⟨b, 0, none⟩), .int .i64 s, .int .i64 p, .agg #[.int .i64 f, .bool x]] ([mpc m M, cells t 31 (xs M)] ++ (cells g5 33 [.int .i64 k, .int .i64 s, .int .i64 p, .int .i64 f, .bool x] :: cells b 78 [.map (some m)] :: fr)) (fun _ : Unit => True) (fun _ => .bool false) (fun _ => [mpc m M, cells t 31 (xs M)] ++ (cells g5 33 [.int .i64 k, .int .i64 s, .int .i64 p, .int .i64 f, .bool x] :: cells b 78 [.map (some m)] :: fr)) := (does_perm (bput_n b m M s p f x hi (cells t 31 (xs M) :: cells g5 33 [.int .i64 k, .int .i64 s, .int .i64 p, .int .i64 f, .bool x] :: fr)) (sel_perm _ 4 [3, 0, 1, 2] (by decide))).post fun _ _ => ⟨(), trivial, rfl, fun B w hS => hS.sel 4 [1, 2, 3, 0] (by decide)⟩
        repeat' (first
         | ((refine s_sel 4 [2, 3, 0, 1] (by decide) ?_; refine c_free2 ⟨[27, 37], []⟩ [0, 1, 2, 3, 4, 5, 6, 7, 8, 9, 11, 12, 13, 14, 15, 16, 17, 18, 19, 10, 20, 21, 22] (id := 7) mixed (by kernel_rfl) ?_))
         | ((refine z_isdst 27 ?_; refine o_callx (po := fun _ => [mpc m M, cells t 31 (xs M)]) Try.func22 rfl rfl rfl h1 (by decide) (by decide) fun _ _ => ?_))
         | ((refine z_isdst 37 ?_; refine o_callx (po := fun _ => [mpc m M, cells t 31 (xs M)]) Try.func41 rfl rfl rfl ((xput_n t M s p f x hi).frame _) (by decide) (by decide) fun _ _ => ?_))
         | refine z_mono0ww ?_
         | ((refine z_isdst 26 ?_; refine o_buildf (t := 36) (zs := [.int .i64 0, .bool false]) (vs := [.int .i64 f, .bool x]) tabOk rfl rfl (by kernel_rfl) rfl ⟨_, _, rfl, rfl, Nat.le_of_ble_eq_true rfl, _, _, rfl, rfl, Nat.le_of_ble_eq_true rfl, rfl⟩ (by decide) ?_))
         | (refine s_is ?_; first
         | (refine s_isret ?_; first
         | exact f_r1 rfl (res_t rfl) M hM rfl (fun w h => ((h.sel 4 [3, 0, 1, 2] (by decide)).mask [true, true, true, false])))
         | (refine s_isw ?_; first
         | refine c_seq ?_
         | refine c_ret ?_
         | (refine s_iscond ?_; first
         | (refine c_true rfl (by first | with_reducible rfl | with_reducible assumption | ((with_reducible refine decide_eq_true ?_); first | with_reducible rfl | with_reducible assumption | omega)) ?_)))
         | refine x_then_ret ?_
         | refine x_block_ret _ ?_)
         | (refine z_isop ?_; first
         | (refine z_isbin ?_; first
         | (refine z_isb .eql ?_; first
         | refine o_beq tabOk rfl rfl rfl (by decide) ?_))
         | (refine z_isload ?_; first
         | (refine z_ld1 tabOk rfl rfl ?_; first
         | refine o_loadm tabOk rfl rfl rfl (by repeat' (first | exact List.mem_cons_self | apply List.mem_cons_of_mem)) (by first | rfl | rfl) (by decide) ?_))
         | refine o_move rfl (by decide) ?_
         | refine o_assign rfl (by decide) ?_
         | refine o_field0 tabOk rfl rfl rfl rfl rfl (by decide) ?_))
  · by_cases h5 : k = 5
    · cases hon : onM M s p with
      | true =>
        have hi : InP s p := hM s p (onM_iff.1 hon)
        have hdel := del_rm hM (fm := 0) hi
        have hget := xget_c t M hM s p
        rw [hon] at hget
        have hdr : ∀ fr', Does Try.prog 23 [.pointer (some ⟨b, 0, none⟩), .int .i64 s, .int .i64 p] (cells b 78 [.map (some m)] :: mpc m M :: fr') (fun _ : Unit => True) (fun _ => .bool true) (fun _ => cells b 78 [.map (some m)] :: mpc m (delM M s p) :: fr') := fun fr' => by
          have := bdrop_c b m M s p fr'
          rw [hon] at this
          exact this
        repeat' (first
         | ((refine z_isdst 46 ?_; refine o_callr rfl Try.func13 rfl rfl rfl (hget _ (cells_rds 3 rfl)) (by decide) ?_))
         | ((refine z_isdst 54 ?_; refine z_sel rfl 4 [3, 0, 1, 2] (by decide) ?_; refine o_calla Try.func42 rfl rfl rfl (xdrop_c t M s p 0 _) (by decide) fun _ _ => ?_; rw [← hdel]))
         | ((refine z_isdst 60 ?_; refine z_sel rfl 4 [2, 3, 0, 1] (by decide) ?_; refine o_calla Try.func23 rfl rfl rfl (hdr _) (by decide) fun _ _ => ?_))
         | ((refine z_isdst 5 ?_; refine o_boxa (vs := [.int .i64 k, .int .i64 s, .int .i64 p, .int .i64 f, .bool x]) rfl rfl (by decide) fun g5 => ?_))
         | (refine s_is ?_; first
         | (refine s_isret ?_; first
         | exact f_r1 rfl (res_t rfl) (delM M s p) (hM.del s p) rfl (fun w h => ((h.sel 4 [0, 1, 2, 3] (by decide)).mask [true, true, true, false])))
         | (refine s_isw ?_; first
         | refine c_seq ?_
         | refine c_block ?_
         | refine c_region ?_
         | refine c_ret ?_
         | (refine s_iscond ?_; first
         | (refine c_true rfl (by first | with_reducible rfl | with_reducible assumption | ((with_reducible refine decide_eq_true ?_); first | with_reducible rfl | with_reducible assumption | omega)) ?_)
         | (refine c_false rfl (by first | with_reducible rfl | with_reducible assumption | ((with_reducible refine decide_eq_false ?_); first | with_reducible assumption | omega)) ?_)))
         | refine x_then_ret ?_
         | refine x_block_ret _ ?_)
         | (refine z_isnil ?_; first
         | refine z_list ?_)
         | (refine z_isop ?_; first
         | (refine z_isbin ?_; first
         | (refine z_isb .eql ?_; first
         | refine o_eq rfl rfl (by decide) ?_
         | refine o_beq tabOk rfl rfl rfl (by decide) ?_))
         | (refine z_isload ?_; first
         | (refine z_ld1 tabOk rfl rfl ?_; first
         | refine o_loadm tabOk rfl rfl rfl (by repeat' (first | exact List.mem_cons_self | apply List.mem_cons_of_mem)) (by first | rfl | rfl) (by decide) ?_))
         | (refine z_isfield ?_; first
         | refine o_fv tabOk rfl rfl rfl rfl rfl (by first | rfl | rfl) (by decide) ?_)
         | refine o_move rfl (by decide) ?_
         | refine o_assign rfl (by decide) ?_
         | refine o_field0 tabOk rfl rfl rfl rfl rfl (by decide) ?_))
      | false =>
        have hget := xget_c t M hM s p
        rw [hon] at hget
        have hoff := delM_off hon
        have hdr : ∀ fr', Does Try.prog 23 [.pointer (some ⟨b, 0, none⟩), .int .i64 s, .int .i64 p] (cells b 78 [.map (some m)] :: mpc m M :: fr') (fun _ : Unit => True) (fun _ => .bool false) (fun _ => cells b 78 [.map (some m)] :: mpc m M :: fr') := fun fr' => by
          have := bdrop_c b m M s p fr'
          rw [hon, hoff] at this
          exact this
        repeat' (first
         | ((refine z_isdst 46 ?_; refine o_callr rfl Try.func13 rfl rfl rfl (hget _ (cells_rds 3 rfl)) (by decide) ?_))
         | ((refine z_isdst 60 ?_; refine z_sel rfl 4 [1, 2, 3, 0] (by decide) ?_; refine o_calla Try.func23 rfl rfl rfl (hdr _) (by decide) fun _ _ => ?_))
         | ((refine z_isdst 5 ?_; refine o_boxa (vs := [.int .i64 k, .int .i64 s, .int .i64 p, .int .i64 f, .bool x]) rfl rfl (by decide) fun g5 => ?_))
         | (refine s_is ?_; first
         | (refine s_isret ?_; first
         | exact f_r1 rfl (res_t rfl) M hM rfl (fun w h => ((h.sel 4 [0, 1, 2, 3] (by decide)).mask [true, true, true, false])))
         | (refine s_isw ?_; first
         | refine c_seq ?_
         | refine c_block ?_
         | refine c_region ?_
         | refine c_skip ?_
         | refine c_ret ?_
         | (refine s_iscond ?_; first
         | (refine c_true rfl (by first | with_reducible rfl | with_reducible assumption | ((with_reducible refine decide_eq_true ?_); first | with_reducible rfl | with_reducible assumption | omega)) ?_)
         | (refine c_false rfl (by first | with_reducible rfl | with_reducible assumption | ((with_reducible refine decide_eq_false ?_); first | with_reducible assumption | omega)) ?_)))
         | refine x_then_ret ?_
         | refine x_block_ret _ ?_)
         | (refine z_isnil ?_; first
         | refine z_list ?_)
         | (refine z_isop ?_; first
         | (refine z_isbin ?_; first
         | (refine z_isb .eql ?_; first
         | refine o_eq rfl rfl (by decide) ?_
         | refine o_beq tabOk rfl rfl rfl (by decide) ?_))
         | (refine z_isload ?_; first
         | (refine z_ld1 tabOk rfl rfl ?_; first
         | refine o_loadm tabOk rfl rfl rfl (by repeat' (first | exact List.mem_cons_self | apply List.mem_cons_of_mem)) (by first | rfl | rfl) (by decide) ?_))
         | (refine z_isfield ?_; first
         | refine o_fv tabOk rfl rfl rfl rfl rfl (by first | rfl | rfl) (by decide) ?_)
         | refine o_move rfl (by decide) ?_
         | refine o_assign rfl (by decide) ?_
         | refine o_field0 tabOk rfl rfl rfl rfl rfl (by decide) ?_))
    · by_cases h6 : k = 6
      · by_cases hs : 0 ≤ s
        · have hrm := row_rm hM hs
          have hcn := row_cnt hM hs
          repeat' (first
           | ((refine z_isdst 71 ?_; refine z_sel rfl 4 [3, 0, 1, 2] (by decide) ?_; refine o_calla Try.func42 rfl rfl rfl (xdrop_c t M s (-1) 0 _) (by decide) fun _ _ => ?_; rw [← hrm, ← hcn]))
           | ((refine z_isdst 75 ?_; refine z_sel rfl 4 [2, 3, 0, 1] (by decide) ?_; refine o_calla Try.func24 rfl rfl rfl (bempty_c b m M hM s _) (by decide) fun _ _ => ?_))
           | ((refine z_isdst 5 ?_; refine o_boxa (vs := [.int .i64 k, .int .i64 s, .int .i64 p, .int .i64 f, .bool x]) rfl rfl (by decide) fun g5 => ?_))
           | (refine s_is ?_; first
           | (refine s_isret ?_; first
           | exact f_r1 rfl (res_t (congrArg some (congrArg Value.bool (decide_eq_true rfl)))) (dls M (row M s)) (hM.dls _) rfl (fun w h => ((h.sel 4 [0, 1, 2, 3] (by decide)).mask [true, true, true, false])))
           | (refine s_isw ?_; first
           | refine c_seq ?_
           | refine c_block ?_
           | refine c_region ?_
           | refine c_ret ?_
           | (refine s_iscond ?_; first
           | (refine c_true rfl (by first | with_reducible rfl | with_reducible assumption | ((with_reducible refine decide_eq_true ?_); first | with_reducible rfl | with_reducible assumption | omega)) ?_)
           | (refine c_false rfl (by first | with_reducible rfl | with_reducible assumption | ((with_reducible refine decide_eq_false ?_); first | with_reducible assumption | omega)) ?_)))
           | refine x_then_ret ?_
           | refine x_block_ret _ ?_)
           | (refine z_isnil ?_; first
           | refine z_list ?_)
           | (refine z_isop ?_; first
           | (refine z_isbin ?_; first
           | (refine z_isb .eql ?_; first
           | refine o_eq rfl rfl (by decide) ?_)
           | (refine z_isb .geq ?_; first
           | refine o_ge rfl rfl (by decide) ?_))
           | (refine z_isload ?_; first
           | (refine z_ld1 tabOk rfl rfl ?_; first
           | refine o_loadm tabOk rfl rfl rfl (by repeat' (first | exact List.mem_cons_self | apply List.mem_cons_of_mem)) (by first | rfl | rfl) (by decide) ?_))
           | refine o_move rfl (by decide) ?_
           | refine o_assign rfl (by decide) ?_
           | refine o_field0 tabOk rfl rfl rfl rfl rfl (by decide) ?_))
        · have hrn := row_neg hM hs
          have hln : (pgs M s).length = 0 := by rw [pgs_neg hM hs]; rfl
          have hem := bempty_c b m M hM s
          rw [hrn, hln] at hem
          repeat' (first
           | ((refine z_isdst 75 ?_; refine z_sel rfl 4 [1, 2, 3, 0] (by decide) ?_; refine o_calla Try.func24 rfl rfl rfl (hem _) (by decide) fun _ _ => ?_))
           | ((refine z_isdst 5 ?_; refine o_boxa (vs := [.int .i64 k, .int .i64 s, .int .i64 p, .int .i64 f, .bool x]) rfl rfl (by decide) fun g5 => ?_))
           | (refine s_is ?_; first
           | (refine s_isret ?_; first
           | exact f_r1 rfl (res_t rfl) M hM rfl (fun w h => ((h.sel 4 [0, 1, 2, 3] (by decide)).mask [true, true, true, false])))
           | (refine s_isw ?_; first
           | refine c_seq ?_
           | refine c_block ?_
           | refine c_region ?_
           | refine c_skip ?_
           | refine c_ret ?_
           | (refine s_iscond ?_; first
           | (refine c_true rfl (by first | with_reducible rfl | with_reducible assumption | ((with_reducible refine decide_eq_true ?_); first | with_reducible rfl | with_reducible assumption | omega)) ?_)
           | (refine c_false rfl (by first | with_reducible rfl | with_reducible assumption | ((with_reducible refine decide_eq_false ?_); first | with_reducible assumption | omega)) ?_)))
           | refine x_then_ret ?_
           | refine x_block_ret _ ?_)
           | (refine z_isnil ?_; first
           | refine z_list ?_)
           | (refine z_isop ?_; first
           | (refine z_isbin ?_; first
           | (refine z_isb .eql ?_; first
           | refine o_eq rfl rfl (by decide) ?_)
           | (refine z_isb .geq ?_; first
           | refine o_ge rfl rfl (by decide) ?_))
           | (refine z_isload ?_; first
           | (refine z_ld1 tabOk rfl rfl ?_; first
           | refine o_loadm tabOk rfl rfl rfl (by repeat' (first | exact List.mem_cons_self | apply List.mem_cons_of_mem)) (by first | rfl | rfl) (by decide) ?_))
           | refine o_move rfl (by decide) ?_
           | refine o_assign rfl (by decide) ?_
           | refine o_field0 tabOk rfl rfl rfl rfl rfl (by decide) ?_))
      · by_cases h7 : k = 7
        · have hrm := uss_rm hM 0 f
          have hcn := uss_cnt M 0 f
          have h1 : ∀ c5 : Chunk, Does Try.prog 21 [.pointer (some ⟨b, 0, none⟩), .int .i64 f] ([mpc m M, cells t 31 (xs M)] ++ (c5 :: cells b 78 [.map (some m)] :: fr)) (fun _ : Unit => True) (fun _ => .int .i64 (uss M f).length) (fun _ => [mpc m (dls M (uss M f)), cells t 31 (xs M)] ++ (c5 :: cells b 78 [.map (some m)] :: fr)) := fun c5 => (does_perm (brelease_c b m M hM f (cells t 31 (xs M) :: c5 :: fr)) (sel_perm _ 4 [3, 0, 1, 2] (by decide))).post fun _ _ => ⟨(), trivial, rfl, fun B w hS => hS.sel 4 [1, 2, 3, 0] (by decide)⟩
          have h2 : ∀ c5 : Chunk, Does Try.prog 42 [.pointer (some ⟨t, 0, none⟩), .int .i64 (-1), .int .i64 0, .int .i64 f] ([mpc m (dls M (uss M f)), cells t 31 (xs M)] ++ (c5 :: cells b 78 [.map (some m)] :: fr)) (fun _ : Unit => True) (fun _ => .int .i64 (uss M f).length) (fun _ => [mpc m (dls M (uss M f)), cells t 31 (xs (dls M (uss M f)))] ++ (c5 :: cells b 78 [.map (some m)] :: fr)) := fun c5 => by
            have h := xdrop_c t M (-1) 0 f (mpc m (dls M (uss M f)) :: c5 :: cells b 78 [.map (some m)] :: fr)
            rw [← hrm, ← hcn] at h
            exact (does_perm h (sel_perm _ 2 [1, 0] (by decide))).post fun _ _ => ⟨(), trivial, rfl, fun B w hS => hS.sel 2 [1, 0] (by decide)⟩
          repeat' (first
           | ((refine s_sel 4 [2, 3, 0, 1] (by decide) ?_; refine c_free2 ⟨[83, 87], []⟩ [0, 1, 2, 4, 5, 6, 3, 7, 8, 9] (id := 19) mixed (by kernel_rfl) ?_))
           | ((refine z_isdst 83 ?_; refine o_callx (po := fun _ => [mpc m (dls M (uss M f)), cells t 31 (xs M)]) Try.func21 rfl rfl rfl (h1 _) (by decide) (by decide) fun _ _ => ?_))
           | ((refine z_isdst 87 ?_; refine o_callx (po := fun _ => [mpc m (dls M (uss M f)), cells t 31 (xs (dls M (uss M f)))]) Try.func42 rfl rfl rfl (h2 _) (by decide) (by decide) fun _ _ => ?_))
           | refine z_mono0ww ?_
           | ((refine z_isdst 5 ?_; refine o_boxa (vs := [.int .i64 k, .int .i64 s, .int .i64 p, .int .i64 f, .bool x]) rfl rfl (by decide) fun g5 => ?_))
           | (refine s_is ?_; first
           | (refine s_isret ?_; first
           | exact f_r1 rfl (res_t (congrArg some (congrArg Value.bool (decide_eq_true rfl)))) (dls M (uss M f)) (hM.dls _) rfl (fun w h => ((h.sel 4 [3, 0, 1, 2] (by decide)).mask [true, true, true, false])))
           | (refine s_isw ?_; first
           | refine c_seq ?_
           | refine c_block ?_
           | refine c_region ?_
           | refine c_ret ?_
           | (refine s_iscond ?_; first
           | (refine c_true rfl (by first | with_reducible rfl | with_reducible assumption | ((with_reducible refine decide_eq_true ?_); first | with_reducible rfl | with_reducible assumption | omega)) ?_)
           | (refine c_false rfl (by first | with_reducible rfl | with_reducible assumption | ((with_reducible refine decide_eq_false ?_); first | with_reducible assumption | omega)) ?_)))
           | refine x_then_ret ?_
           | refine x_block_ret _ ?_)
           | (refine z_isnil ?_; first
           | refine z_list ?_)
           | (refine z_isop ?_; first
           | (refine z_isbin ?_; first
           | (refine z_isb .eql ?_; first
           | refine o_eq rfl rfl (by decide) ?_))
           | (refine z_isload ?_; first
           | (refine z_ld1 tabOk rfl rfl ?_; first
           | refine o_loadm tabOk rfl rfl rfl (by repeat' (first | exact List.mem_cons_self | apply List.mem_cons_of_mem)) (by first | rfl | rfl) (by decide) ?_))
           | refine o_move rfl (by decide) ?_
           | refine o_assign rfl (by decide) ?_
           | refine o_field0 tabOk rfl rfl rfl rfl rfl (by decide) ?_))
        · skip
          repeat' (first
           | ((refine z_isdst 5 ?_; refine o_boxa (vs := [.int .i64 k, .int .i64 s, .int .i64 p, .int .i64 f, .bool x]) rfl rfl (by decide) fun g5 => ?_))
           | (refine s_is ?_; first
           | (refine s_isret ?_; first
           | exact f_r1 rfl (res_t rfl) M hM rfl (fun w h => ((h.sel 4 [1, 2, 3, 0] (by decide)).mask [true, true, true, false])))
           | (refine s_isw ?_; first
           | refine c_seq ?_
           | refine c_block ?_
           | refine c_region ?_
           | refine c_skip ?_
           | refine c_ret ?_
           | (refine s_iscond ?_; first
           | (refine c_false rfl (by first | with_reducible rfl | with_reducible assumption | ((with_reducible refine decide_eq_false ?_); first | with_reducible assumption | omega)) ?_))))
           | (refine z_isnil ?_; first
           | refine z_list ?_)
           | (refine z_isop ?_; first
           | (refine z_isbin ?_; first
           | (refine z_isb .eql ?_; first
           | refine o_eq rfl rfl (by decide) ?_))
           | (refine z_isload ?_; first
           | (refine z_ld1 tabOk rfl rfl ?_; first
           | refine o_loadm tabOk rfl rfl rfl (by repeat' (first | exact List.mem_cons_self | apply List.mem_cons_of_mem)) (by first | rfl | rfl) (by decide) ?_))
           | refine o_assign rfl (by decide) ?_
           | refine o_field0 tabOk rfl rfl rfl rfl rfl (by decide) ?_))
end Go.Proofs.Ytnckabgaichkkaa
