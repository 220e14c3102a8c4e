/-
Bind: the document's table: what is dropped.
-/
import Derived.Test.YtnckabgaichkkaaBx2
namespace Go.Proofs.Ytnckabgaichkkaa
set_option linter.unusedVariables false
set_option linter.unusedSimpArgs false
open Eng
/-- Is a place meant? -/
def mine (M : Mp) (sp pg fm : Int) (s p : Int) : Bool := if sp < 0 then decide (fM M s p = fm) else (decide (s = sp) && (decide (pg < 0) || decide (p = pg)))
def dmf (M : Mp) (sp pg fm : Int) : Nat → Bool := fun k => onM M ((k / 32 : Nat) : Int) ((k % 32 : Nat) : Int) && mine M sp pg fm ((k / 32 : Nat) : Int) ((k % 32 : Nat) : Int)
theorem dmf_sp {M : Mp} {sp pg fm : Int} {s p : Nat} (hp : p < 32) : dmf M sp pg fm (s * 32 + p) = (onM M s p && mine M sp pg fm s p) := by
  unfold dmf
  rw [show (s * 32 + p) / 32 = s by omega, show (s * 32 + p) % 32 = p by omega]
/-- Some of the first n places are emptied. -/
def rmM (M : Mp) (g : Nat → Bool) (n : Nat) : Mp := fun s p => if 0 ≤ s ∧ 0 ≤ p ∧ p < 32 ∧ s * 32 + p < n ∧ g (s * 32 + p).toNat = true then none else M s p
theorem rmM_zero (M : Mp) (g : Nat → Bool) : rmM M g 0 = M := by
  funext s p
  unfold rmM
  rw [if_neg (by omega)]
theorem rmM_no {M : Mp} {g : Nat → Bool} {n : Nat} (h : g n = false) : rmM M g (n + 1) = rmM M g n := by
  funext s p
  unfold rmM
  by_cases e : 0 ≤ s ∧ 0 ≤ p ∧ p < 32 ∧ s * 32 + p < n ∧ g (s * 32 + p).toNat = true
  · rw [if_pos e, if_pos ⟨e.1, e.2.1, e.2.2.1, by omega, e.2.2.2.2⟩]
  · rw [if_neg e, if_neg fun e2 => ?_]
    by_cases e3 : s * 32 + p < n
    · exact e ⟨e2.1, e2.2.1, e2.2.2.1, e3, e2.2.2.2.2⟩
    · have : (s * 32 + p).toNat = n := by omega
      rw [this, h] at e2
      exact absurd e2.2.2.2.2 (by simp)
theorem rmM_yes {M : Mp} {g : Nat → Bool} {s p : Nat} (hp : p < 32) (h : g (s * 32 + p) = true) : delM (rmM M g (s * 32 + p)) s p = rmM M g (s * 32 + p + 1) := by
  funext a c
  unfold delM rmM
  by_cases e : a = s ∧ c = p
  · rw [if_pos e, if_pos]
    refine ⟨by omega, by omega, by omega, by omega, ?_⟩
    rw [e.1, e.2, show ((s : Int) * 32 + p).toNat = s * 32 + p by omega]
    exact h
  · rw [if_neg e]
    by_cases e2 : 0 ≤ a ∧ 0 ≤ c ∧ c < 32 ∧ a * 32 + c < ((s * 32 + p : Nat) : Int) ∧ g (a * 32 + c).toNat = true
    · rw [if_pos e2, if_pos ⟨e2.1, e2.2.1, e2.2.2.1, by omega, e2.2.2.2.2⟩]
    · rw [if_neg e2, if_neg fun e3 => ?_]
      exact e2 ⟨e3.1, e3.2.1, e3.2.2.1, by have := e3.2.2.2.1; omega, e3.2.2.2.2⟩
theorem rmM_at (M : Mp) (g : Nat → Bool) {s p n : Nat} (h : n ≤ s * 32 + p) : rmM M g n s p = M s p := by
  unfold rmM
  rw [if_neg (by omega)]
theorem bcv_rm (M : Mp) (g : Nat → Bool) (s p : Nat) : bcv (rmM M g (s * 32 + p)) s p = bcv M s p := by
  unfold bcv onM fM wM
  rw [rmM_at M g (Nat.le_refl _)]
attribute [local irreducible] Eng.Hold Eng.Z Eng.S Eng.cells Eng.old Eng.own Eng.mpc Eng.rgc Eng.onM Eng.fM Eng.wM Eng.upM Eng.delM
attribute [local irreducible] xs mine dmf rmM
set_option maxHeartbeats 8000000 in
theorem xdrop_c (t : Nat) (M : Mp) (sp pg fm : Int) (fr : List Chunk) : Does Try.prog 42 [.pointer (some ⟨t, 0, none⟩), .int .i64 sp, .int .i64 pg, .int .i64 fm] (cells t 31 (xs M) :: fr) (fun _ : Unit => True) (fun _ => .int .i64 (al (dmf M sp pg fm) 2048).length) (fun _ => cells t 31 (xs (rmM M (dmf M sp pg fm) 2048)) :: fr) := by
  intro w hw
  refine f_enter Try.func42 rfl Try.ntmps42 rfl hw ?_
  repeat' (first
   | (refine s_is ?_; first
   | (refine s_isw ?_; first
   | (refine s_isloop ?_; first
   | ((refine c_loop (X := Nat) (fun s => s ≤ 64) (fun s => [(0, .pointer (some ⟨t, 0, none⟩)), (1, .int .i64 sp), (2, .int .i64 pg), (3, .int .i64 fm), (9, .int .i64 (al (dmf M sp pg fm) (s * 32)).length), (10, .int .i64 s)]) (fun s => cells t 31 (xs (rmM M (dmf M sp pg fm) (s * 32))) :: fr) (fun s => 64 - s) 0 (Nat.zero_le _) ⟨rfl, rfl, rfl, rfl, rfl, rfl, trivial⟩ (fun w h => by rw [show rmM M (dmf M sp pg fm) (0 * 32) = M from rmM_zero _ _]; exact h) (fun s hs0 => ?_); refine hold ?_)))
   | refine c_seq ?_
   | refine c_block ?_
   | refine c_region ?_))
   | (refine z_isnil ?_; first
   | refine z_list ?_)
   | (refine z_isop ?_; first
   | refine o_assign rfl (by decide) ?_))
  refine Hold.go ?_
  by_cases hs : s < 64
  · skip
    repeat' (first
     | (refine s_is ?_; first
     | (refine s_isw ?_; first
     | (refine s_isloop ?_; first
     | ((refine c_loop (X := Nat) (fun p => p ≤ 32) (fun p => [(0, .pointer (some ⟨t, 0, none⟩)), (1, .int .i64 sp), (2, .int .i64 pg), (3, .int .i64 fm), (9, .int .i64 (al (dmf M sp pg fm) (s * 32 + p)).length), (10, .int .i64 s), (11, .int .i64 p)]) (fun p => cells t 31 (xs (rmM M (dmf M sp pg fm) (s * 32 + p))) :: fr) (fun p => 32 - p) 0 (Nat.zero_le _) ⟨rfl, rfl, rfl, rfl, rfl, rfl, rfl, trivial⟩ (fun w h => h) (fun p hp0 => ?_); refine hold ?_)))
     | refine c_seq ?_
     | refine c_block ?_
     | refine c_region ?_
     | refine c_skip ?_
     | (refine s_iscond ?_; first
     | (refine c_true rfl (by first | with_reducible rfl | with_reducible assumption | ((with_reducible refine decide_eq_true ?_); first | with_reducible rfl | with_reducible assumption | omega)) ?_))))
     | (refine z_isnil ?_; first
     | refine z_list ?_)
     | (refine z_isop ?_; first
     | (refine z_isbin ?_; first
     | (refine z_isb .lss ?_; first
     | refine o_lt rfl rfl (by decide) ?_))
     | refine o_move rfl (by decide) ?_
     | refine o_assign rfl (by decide) ?_))
    refine Hold.go ?_
    have hle := al_le (dmf M sp pg fm) (s * 32 + p)
    by_cases hp : p < 32
    · have hel := xs_el (rmM M (dmf M sp pg fm) (s * 32 + p)) hs hp
      rw [bcv_rm] at hel
      have hdm := dmf_sp (M := M) (sp := sp) (pg := pg) (fm := fm) (s := s) hp
      have hput := xs_del (rmM M (dmf M sp pg fm) (s * 32 + p)) hs hp
      have hyes := rmM_yes (M := M) (g := dmf M sp pg fm) (s := s) hp
      have hmn : mine M sp pg fm s p = if sp < 0 then decide (fM M s p = fm) else (decide ((s : Int) = sp) && (decide (pg < 0) || decide ((p : Int) = pg))) := by unfold mine; rfl
      generalize hon : onM M s p = on at *
      unfold bcv at hel
      rw [hon] at hel
      cases on with
      | false =>
        have hn := al_no hdm
        have hr := rmM_no (M := M) hdm
        by_cases h1 : sp < 0
        · by_cases h2 : fM M s p = fm
          · by_cases h3 : (s : Int) = sp
            · exfalso; omega
            · skip
              repeat' (first
               | ((refine z_isdst 12 ?_; refine o_alloca (e := 27) (vs := [.bool false, .int .i64 0, .bool false]) rfl (by kernel_rfl) (by decide) fun g12 => ?_))
               | ((refine z_isdst 29 ?_; refine o_loadrw tabOk (cells_rds 0 rfl) rfl rfl rfl (es := [.bool _, .int .i64 (fM M s p), .bool (wM M s p)]) rfl (Nat.succ_pos _) hel (by decide) ?_))
               | (refine s_is ?_; first
               | (refine s_isagain ?_; first
               | (exact c_again (p + 1) (by omega) (by omega) ⟨rfl, rfl, rfl, rfl, (by rw [show s * 32 + (p + 1) = s * 32 + p + 1 from rfl, hn]; rfl), rfl, rfl, trivial⟩ (fun w h => by rw [show s * 32 + (p + 1) = s * 32 + p + 1 from rfl, hr]; exact ((h.sel 2 [1, 0] (by decide)).mask [true, false]))))
               | (refine s_isw ?_; first
               | refine c_seq ?_
               | refine c_block ?_
               | refine c_region ?_
               | refine c_skip ?_
               | (refine s_iscond ?_; first
               | (refine c_true rfl (by first | with_reducible rfl | with_reducible assumption | ((with_reducible refine decide_eq_true ?_); first | with_reducible rfl | with_reducible assumption | omega)) ?_)
               | (refine c_false rfl (by first | with_reducible rfl | with_reducible assumption | ((with_reducible refine decide_eq_false ?_); first | with_reducible assumption | omega)) ?_))))
               | (refine z_isg1 ?_; first
               | refine z_skipu (by decide) rfl rfl ?_
               | (refine z_skip1 (by decide) rfl rfl (by first | with_reducible rfl | with_reducible assumption | ((with_reducible refine decide_eq_false ?_); first | with_reducible assumption | omega)) ?_))
               | (refine z_isg0 ?_; first
               | refine z_skipu (by decide) rfl rfl ?_)
               | (refine z_isnil ?_; first
               | refine z_list ?_)
               | (refine z_isop ?_; first
               | refine o_indexm tabOk rfl rfl rfl rfl (by omega) (by omega) (by decide) ?_
               | refine o_indexn tabOk rfl rfl rfl rfl (by omega) (by omega) (by decide) ?_
               | (refine z_isbin ?_; first
               | (refine z_isb .add ?_; first
               | refine o_add rfl rfl (by omega) (by omega) (by decide) ?_)
               | (refine z_isb .eql ?_; first
               | refine o_eq rfl rfl (by decide) ?_)
               | (refine z_isb .lss ?_; first
               | refine o_lt rfl rfl (by decide) ?_))
               | (refine z_isload ?_; first
               | (refine z_ld1 tabOk rfl rfl ?_; first
               | refine o_loadm tabOk rfl rfl rfl (by repeat' (first | exact List.mem_cons_self | apply List.mem_cons_of_mem)) (by first | rfl | rfl) (by decide) ?_))
               | (refine z_isstore ?_; first
               | (refine z_stw rfl ?_; first
               | ((refine z_sti 0 rfl rfl ?_; refine o_storeb0 rfl tabOk rfl rfl rfl (by first | rfl | rfl) (by first | rfl | rfl) (by first | rfl | rfl) ?_))))
               | (refine z_ispick ?_; first
               | (refine o_pick0 rfl (by first | with_reducible rfl | with_reducible assumption | ((with_reducible refine decide_eq_false ?_); first | with_reducible assumption | omega)) rfl (by decide) ?_))
               | refine o_move rfl (by decide) ?_
               | refine o_assign rfl (by decide) ?_
               | refine o_nil rfl (by decide) ?_
               | refine o_field0 tabOk rfl rfl rfl rfl rfl (by decide) ?_))
          · by_cases h3 : (s : Int) = sp
            · exfalso; omega
            · skip
              repeat' (first
               | ((refine z_isdst 12 ?_; refine o_alloca (e := 27) (vs := [.bool false, .int .i64 0, .bool false]) rfl (by kernel_rfl) (by decide) fun g12 => ?_))
               | ((refine z_isdst 29 ?_; refine o_loadrw tabOk (cells_rds 0 rfl) rfl rfl rfl (es := [.bool _, .int .i64 (fM M s p), .bool (wM M s p)]) rfl (Nat.succ_pos _) hel (by decide) ?_))
               | (refine s_is ?_; first
               | (refine s_isagain ?_; first
               | (exact c_again (p + 1) (by omega) (by omega) ⟨rfl, rfl, rfl, rfl, (by rw [show s * 32 + (p + 1) = s * 32 + p + 1 from rfl, hn]; rfl), rfl, rfl, trivial⟩ (fun w h => by rw [show s * 32 + (p + 1) = s * 32 + p + 1 from rfl, hr]; exact ((h.sel 2 [1, 0] (by decide)).mask [true, false]))))
               | (refine s_isw ?_; first
               | refine c_seq ?_
               | refine c_block ?_
               | refine c_region ?_
               | refine c_skip ?_
               | (refine s_iscond ?_; first
               | (refine c_true rfl (by first | with_reducible rfl | with_reducible assumption | ((with_reducible refine decide_eq_true ?_); first | with_reducible rfl | with_reducible assumption | omega)) ?_)
               | (refine c_false rfl (by first | with_reducible rfl | with_reducible assumption | ((with_reducible refine decide_eq_false ?_); first | with_reducible assumption | omega)) ?_))))
               | (refine z_isg1 ?_; first
               | refine z_skipu (by decide) rfl rfl ?_
               | (refine z_skip1 (by decide) rfl rfl (by first | with_reducible rfl | with_reducible assumption | ((with_reducible refine decide_eq_false ?_); first | with_reducible assumption | omega)) ?_))
               | (refine z_isg0 ?_; first
               | refine z_skipu (by decide) rfl rfl ?_)
               | (refine z_isnil ?_; first
               | refine z_list ?_)
               | (refine z_isop ?_; first
               | refine o_indexm tabOk rfl rfl rfl rfl (by omega) (by omega) (by decide) ?_
               | refine o_indexn tabOk rfl rfl rfl rfl (by omega) (by omega) (by decide) ?_
               | (refine z_isbin ?_; first
               | (refine z_isb .add ?_; first
               | refine o_add rfl rfl (by omega) (by omega) (by decide) ?_)
               | (refine z_isb .eql ?_; first
               | refine o_eq rfl rfl (by decide) ?_)
               | (refine z_isb .lss ?_; first
               | refine o_lt rfl rfl (by decide) ?_))
               | (refine z_isload ?_; first
               | (refine z_ld1 tabOk rfl rfl ?_; first
               | refine o_loadm tabOk rfl rfl rfl (by repeat' (first | exact List.mem_cons_self | apply List.mem_cons_of_mem)) (by first | rfl | rfl) (by decide) ?_))
               | (refine z_isstore ?_; first
               | (refine z_stw rfl ?_; first
               | ((refine z_sti 0 rfl rfl ?_; refine o_storeb0 rfl tabOk rfl rfl rfl (by first | rfl | rfl) (by first | rfl | rfl) (by first | rfl | rfl) ?_))))
               | (refine z_ispick ?_; first
               | (refine o_pick0 rfl (by first | with_reducible rfl | with_reducible assumption | ((with_reducible refine decide_eq_false ?_); first | with_reducible assumption | omega)) rfl (by decide) ?_))
               | refine o_move rfl (by decide) ?_
               | refine o_assign rfl (by decide) ?_
               | refine o_nil rfl (by decide) ?_
               | refine o_field0 tabOk rfl rfl rfl rfl rfl (by decide) ?_))
        · by_cases h3 : (s : Int) = sp
          · by_cases h4 : pg < 0
            · skip
              repeat' (first
               | ((refine z_isdst 12 ?_; refine o_alloca (e := 27) (vs := [.bool false, .int .i64 0, .bool false]) rfl (by kernel_rfl) (by decide) fun g12 => ?_))
               | ((refine z_isdst 29 ?_; refine o_loadrw tabOk (cells_rds 0 rfl) rfl rfl rfl (es := [.bool _, .int .i64 (fM M s p), .bool (wM M s p)]) rfl (Nat.succ_pos _) hel (by decide) ?_))
               | (refine s_is ?_; first
               | (refine s_isagain ?_; first
               | (exact c_again (p + 1) (by omega) (by omega) ⟨rfl, rfl, rfl, rfl, (by rw [show s * 32 + (p + 1) = s * 32 + p + 1 from rfl, hn]; rfl), rfl, rfl, trivial⟩ (fun w h => by rw [show s * 32 + (p + 1) = s * 32 + p + 1 from rfl, hr]; exact ((h.sel 2 [1, 0] (by decide)).mask [true, false]))))
               | (refine s_isw ?_; first
               | refine c_seq ?_
               | refine c_block ?_
               | refine c_region ?_
               | refine c_skip ?_
               | (refine s_iscond ?_; first
               | (refine c_true rfl (by first | with_reducible rfl | with_reducible assumption | ((with_reducible refine decide_eq_true ?_); first | with_reducible rfl | with_reducible assumption | omega)) ?_)
               | (refine c_false rfl (by first | with_reducible rfl | with_reducible assumption | ((with_reducible refine decide_eq_false ?_); first | with_reducible assumption | omega)) ?_))))
               | (refine z_isg1 ?_; first
               | (refine z_want1 rfl rfl (by first | with_reducible rfl | with_reducible assumption | ((with_reducible refine decide_eq_true ?_); first | with_reducible rfl | with_reducible assumption | omega)) ?_)
               | (refine z_skip1 (by decide) rfl rfl (by first | with_reducible rfl | with_reducible assumption | ((with_reducible refine decide_eq_false ?_); first | with_reducible assumption | omega)) ?_))
               | (refine z_isg0 ?_; first
               | (refine z_skip0 (by decide) rfl rfl (by first | with_reducible rfl | with_reducible assumption | ((with_reducible refine decide_eq_true ?_); first | with_reducible rfl | with_reducible assumption | omega)) ?_))
               | (refine z_isnil ?_; first
               | refine z_list ?_)
               | (refine z_isop ?_; first
               | refine o_indexm tabOk rfl rfl rfl rfl (by omega) (by omega) (by decide) ?_
               | refine o_indexn tabOk rfl rfl rfl rfl (by omega) (by omega) (by decide) ?_
               | (refine z_isbin ?_; first
               | (refine z_isb .add ?_; first
               | refine o_add rfl rfl (by omega) (by omega) (by decide) ?_)
               | (refine z_isb .eql ?_; first
               | refine o_eq rfl rfl (by decide) ?_)
               | (refine z_isb .lss ?_; first
               | refine o_lt rfl rfl (by decide) ?_))
               | (refine z_isload ?_; first
               | (refine z_ld1 tabOk rfl rfl ?_; first
               | refine o_loadm tabOk rfl rfl rfl (by repeat' (first | exact List.mem_cons_self | apply List.mem_cons_of_mem)) (by first | rfl | rfl) (by decide) ?_))
               | (refine z_isstore ?_; first
               | (refine z_stw rfl ?_; first
               | ((refine z_sti 0 rfl rfl ?_; refine o_storeb0 rfl tabOk rfl rfl rfl (by first | rfl | rfl) (by first | rfl | rfl) (by first | rfl | rfl) ?_))))
               | (refine z_ispick ?_; first
               | (refine o_pick1 rfl (by first | with_reducible rfl | with_reducible assumption | ((with_reducible refine decide_eq_true ?_); first | with_reducible rfl | with_reducible assumption | omega)) rfl (by decide) ?_)
               | (refine o_pick0 rfl (by first | with_reducible rfl | with_reducible assumption | ((with_reducible refine decide_eq_false ?_); first | with_reducible assumption | omega)) rfl (by decide) ?_))
               | refine o_move rfl (by decide) ?_
               | refine o_assign rfl (by decide) ?_
               | refine o_nil rfl (by decide) ?_
               | refine o_field0 tabOk rfl rfl rfl rfl rfl (by decide) ?_))
            · by_cases h5 : (p : Int) = pg
              · skip
                repeat' (first
                 | ((refine z_isdst 12 ?_; refine o_alloca (e := 27) (vs := [.bool false, .int .i64 0, .bool false]) rfl (by kernel_rfl) (by decide) fun g12 => ?_))
                 | ((refine z_isdst 29 ?_; refine o_loadrw tabOk (cells_rds 0 rfl) rfl rfl rfl (es := [.bool _, .int .i64 (fM M s p), .bool (wM M s p)]) rfl (Nat.succ_pos _) hel (by decide) ?_))
                 | (refine s_is ?_; first
                 | (refine s_isagain ?_; first
                 | (exact c_again (p + 1) (by omega) (by omega) ⟨rfl, rfl, rfl, rfl, (by rw [show s * 32 + (p + 1) = s * 32 + p + 1 from rfl, hn]; rfl), rfl, rfl, trivial⟩ (fun w h => by rw [show s * 32 + (p + 1) = s * 32 + p + 1 from rfl, hr]; exact ((h.sel 2 [1, 0] (by decide)).mask [true, false]))))
                 | (refine s_isw ?_; first
                 | refine c_seq ?_
                 | refine c_block ?_
                 | refine c_region ?_
                 | refine c_skip ?_
                 | (refine s_iscond ?_; first
                 | (refine c_true rfl (by first | with_reducible rfl | with_reducible assumption | ((with_reducible refine decide_eq_true ?_); first | with_reducible rfl | with_reducible assumption | omega)) ?_)
                 | (refine c_false rfl (by first | with_reducible rfl | with_reducible assumption | ((with_reducible refine decide_eq_false ?_); first | with_reducible assumption | omega)) ?_))))
                 | (refine z_isg1 ?_; first
                 | (refine z_want1 rfl rfl (by first | with_reducible rfl | with_reducible assumption | ((with_reducible refine decide_eq_true ?_); first | with_reducible rfl | with_reducible assumption | omega)) ?_)
                 | (refine z_skip1 (by decide) rfl rfl (by first | with_reducible rfl | with_reducible assumption | ((with_reducible refine decide_eq_false ?_); first | with_reducible assumption | omega)) ?_))
                 | (refine z_isg0 ?_; first
                 | (refine z_want0 rfl rfl (by first | with_reducible rfl | with_reducible assumption | ((with_reducible refine decide_eq_false ?_); first | with_reducible assumption | omega)) ?_))
                 | (refine z_isnil ?_; first
                 | refine z_list ?_)
                 | (refine z_isop ?_; first
                 | refine o_indexm tabOk rfl rfl rfl rfl (by omega) (by omega) (by decide) ?_
                 | refine o_indexn tabOk rfl rfl rfl rfl (by omega) (by omega) (by decide) ?_
                 | (refine z_isbin ?_; first
                 | (refine z_isb .add ?_; first
                 | refine o_add rfl rfl (by omega) (by omega) (by decide) ?_)
                 | (refine z_isb .eql ?_; first
                 | refine o_eq rfl rfl (by decide) ?_)
                 | (refine z_isb .lss ?_; first
                 | refine o_lt rfl rfl (by decide) ?_))
                 | (refine z_isload ?_; first
                 | (refine z_ld1 tabOk rfl rfl ?_; first
                 | refine o_loadm tabOk rfl rfl rfl (by repeat' (first | exact List.mem_cons_self | apply List.mem_cons_of_mem)) (by first | rfl | rfl) (by decide) ?_))
                 | (refine z_isstore ?_; first
                 | (refine z_stw rfl ?_; first
                 | ((refine z_sti 0 rfl rfl ?_; refine o_storeb0 rfl tabOk rfl rfl rfl (by first | rfl | rfl) (by first | rfl | rfl) (by first | rfl | rfl) ?_))))
                 | (refine z_ispick ?_; first
                 | (refine o_pick1 rfl (by first | with_reducible rfl | with_reducible assumption | ((with_reducible refine decide_eq_true ?_); first | with_reducible rfl | with_reducible assumption | omega)) rfl (by decide) ?_)
                 | (refine o_pick0 rfl (by first | with_reducible rfl | with_reducible assumption | ((with_reducible refine decide_eq_false ?_); first | with_reducible assumption | omega)) rfl (by decide) ?_))
                 | refine o_move rfl (by decide) ?_
                 | refine o_assign rfl (by decide) ?_
                 | refine o_nil rfl (by decide) ?_
                 | refine o_field0 tabOk rfl rfl rfl rfl rfl (by decide) ?_))
              · skip
                repeat' (first
                 | ((refine z_isdst 12 ?_; refine o_alloca (e := 27) (vs := [.bool false, .int .i64 0, .bool false]) rfl (by kernel_rfl) (by decide) fun g12 => ?_))
                 | ((refine z_isdst 29 ?_; refine o_loadrw tabOk (cells_rds 0 rfl) rfl rfl rfl (es := [.bool _, .int .i64 (fM M s p), .bool (wM M s p)]) rfl (Nat.succ_pos _) hel (by decide) ?_))
                 | (refine s_is ?_; first
                 | (refine s_isagain ?_; first
                 | (exact c_again (p + 1) (by omega) (by omega) ⟨rfl, rfl, rfl, rfl, (by rw [show s * 32 + (p + 1) = s * 32 + p + 1 from rfl, hn]; rfl), rfl, rfl, trivial⟩ (fun w h => by rw [show s * 32 + (p + 1) = s * 32 + p + 1 from rfl, hr]; exact ((h.sel 2 [1, 0] (by decide)).mask [true, false]))))
                 | (refine s_isw ?_; first
                 | refine c_seq ?_
                 | refine c_block ?_
                 | refine c_region ?_
                 | refine c_skip ?_
                 | (refine s_iscond ?_; first
                 | (refine c_true rfl (by first | with_reducible rfl | with_reducible assumption | ((with_reducible refine decide_eq_true ?_); first | with_reducible rfl | with_reducible assumption | omega)) ?_)
                 | (refine c_false rfl (by first | with_reducible rfl | with_reducible assumption | ((with_reducible refine decide_eq_false ?_); first | with_reducible assumption | omega)) ?_))))
                 | (refine z_isg1 ?_; first
                 | (refine z_want1 rfl rfl (by first | with_reducible rfl | with_reducible assumption | ((with_reducible refine decide_eq_true ?_); first | with_reducible rfl | with_reducible assumption | omega)) ?_)
                 | (refine z_skip1 (by decide) rfl rfl (by first | with_reducible rfl | with_reducible assumption | ((with_reducible refine decide_eq_false ?_); first | with_reducible assumption | omega)) ?_))
                 | (refine z_isg0 ?_; first
                 | (refine z_want0 rfl rfl (by first | with_reducible rfl | with_reducible assumption | ((with_reducible refine decide_eq_false ?_); first | with_reducible assumption | omega)) ?_))
                 | (refine z_isnil ?_; first
                 | refine z_list ?_)
                 | (refine z_isop ?_; first
                 | refine o_indexm tabOk rfl rfl rfl rfl (by omega) (by omega) (by decide) ?_
                 | refine o_indexn tabOk rfl rfl rfl rfl (by omega) (by omega) (by decide) ?_
                 | (refine z_isbin ?_; first
                 | (refine z_isb .add ?_; first
                 | refine o_add rfl rfl (by omega) (by omega) (by decide) ?_)
                 | (refine z_isb .eql ?_; first
                 | refine o_eq rfl rfl (by decide) ?_)
                 | (refine z_isb .lss ?_; first
                 | refine o_lt rfl rfl (by decide) ?_))
                 | (refine z_isload ?_; first
                 | (refine z_ld1 tabOk rfl rfl ?_; first
                 | refine o_loadm tabOk rfl rfl rfl (by repeat' (first | exact List.mem_cons_self | apply List.mem_cons_of_mem)) (by first | rfl | rfl) (by decide) ?_))
                 | (refine z_isstore ?_; first
                 | (refine z_stw rfl ?_; first
                 | ((refine z_sti 0 rfl rfl ?_; refine o_storeb0 rfl tabOk rfl rfl rfl (by first | rfl | rfl) (by first | rfl | rfl) (by first | rfl | rfl) ?_))))
                 | (refine z_ispick ?_; first
                 | (refine o_pick1 rfl (by first | with_reducible rfl | with_reducible assumption | ((with_reducible refine decide_eq_true ?_); first | with_reducible rfl | with_reducible assumption | omega)) rfl (by decide) ?_)
                 | (refine o_pick0 rfl (by first | with_reducible rfl | with_reducible assumption | ((with_reducible refine decide_eq_false ?_); first | with_reducible assumption | omega)) rfl (by decide) ?_))
                 | refine o_move rfl (by decide) ?_
                 | refine o_assign rfl (by decide) ?_
                 | refine o_nil rfl (by decide) ?_
                 | refine o_field0 tabOk rfl rfl rfl rfl rfl (by decide) ?_))
          · skip
            repeat' (first
             | ((refine z_isdst 12 ?_; refine o_alloca (e := 27) (vs := [.bool false, .int .i64 0, .bool false]) rfl (by kernel_rfl) (by decide) fun g12 => ?_))
             | ((refine z_isdst 29 ?_; refine o_loadrw tabOk (cells_rds 0 rfl) rfl rfl rfl (es := [.bool _, .int .i64 (fM M s p), .bool (wM M s p)]) rfl (Nat.succ_pos _) hel (by decide) ?_))
             | (refine s_is ?_; first
             | (refine s_isagain ?_; first
             | (exact c_again (p + 1) (by omega) (by omega) ⟨rfl, rfl, rfl, rfl, (by rw [show s * 32 + (p + 1) = s * 32 + p + 1 from rfl, hn]; rfl), rfl, rfl, trivial⟩ (fun w h => by rw [show s * 32 + (p + 1) = s * 32 + p + 1 from rfl, hr]; exact ((h.sel 2 [1, 0] (by decide)).mask [true, false]))))
             | (refine s_isw ?_; first
             | refine c_seq ?_
             | refine c_block ?_
             | refine c_region ?_
             | refine c_skip ?_
             | (refine s_iscond ?_; first
             | (refine c_true rfl (by first | with_reducible rfl | with_reducible assumption | ((with_reducible refine decide_eq_true ?_); first | with_reducible rfl | with_reducible assumption | omega)) ?_)
             | (refine c_false rfl (by first | with_reducible rfl | with_reducible assumption | ((with_reducible refine decide_eq_false ?_); first | with_reducible assumption | omega)) ?_))))
             | (refine z_isg1 ?_; first
             | refine z_skipu (by decide) rfl rfl ?_
             | (refine z_skip1 (by decide) rfl rfl (by first | with_reducible rfl | with_reducible assumption | ((with_reducible refine decide_eq_false ?_); first | with_reducible assumption | omega)) ?_))
             | (refine z_isg0 ?_; first
             | refine z_skipu (by decide) rfl rfl ?_)
             | (refine z_isnil ?_; first
             | refine z_list ?_)
             | (refine z_isop ?_; first
             | refine o_indexm tabOk rfl rfl rfl rfl (by omega) (by omega) (by decide) ?_
             | refine o_indexn tabOk rfl rfl rfl rfl (by omega) (by omega) (by decide) ?_
             | (refine z_isbin ?_; first
             | (refine z_isb .add ?_; first
             | refine o_add rfl rfl (by omega) (by omega) (by decide) ?_)
             | (refine z_isb .eql ?_; first
             | refine o_eq rfl rfl (by decide) ?_)
             | (refine z_isb .lss ?_; first
             | refine o_lt rfl rfl (by decide) ?_))
             | (refine z_isload ?_; first
             | (refine z_ld1 tabOk rfl rfl ?_; first
             | refine o_loadm tabOk rfl rfl rfl (by repeat' (first | exact List.mem_cons_self | apply List.mem_cons_of_mem)) (by first | rfl | rfl) (by decide) ?_))
             | (refine z_isstore ?_; first
             | (refine z_stw rfl ?_; first
             | ((refine z_sti 0 rfl rfl ?_; refine o_storeb0 rfl tabOk rfl rfl rfl (by first | rfl | rfl) (by first | rfl | rfl) (by first | rfl | rfl) ?_))))
             | (refine z_ispick ?_; first
             | (refine o_pick0 rfl (by first | with_reducible rfl | with_reducible assumption | ((with_reducible refine decide_eq_false ?_); first | with_reducible assumption | omega)) rfl (by decide) ?_))
             | refine o_move rfl (by decide) ?_
             | refine o_assign rfl (by decide) ?_
             | refine o_nil rfl (by decide) ?_
             | refine o_field0 tabOk rfl rfl rfl rfl rfl (by decide) ?_))
      | true =>
        rw [Bool.true_and] at hdm
        by_cases h1 : sp < 0
        · rw [if_pos h1] at hmn
          have h3 : ¬ (s : Int) = sp := by omega
          by_cases h2 : fM M s p = fm
          · rw [hmn, decide_eq_true h2] at hdm
            have hn := al_yes hdm
            have hr := hyes hdm
            repeat' (first
             | ((refine z_isdst 12 ?_; refine o_alloca (e := 27) (vs := [.bool false, .int .i64 0, .bool false]) rfl (by kernel_rfl) (by decide) fun g12 => ?_))
             | ((refine z_isdst 29 ?_; refine o_loadrw tabOk (cells_rds 0 rfl) rfl rfl rfl (es := [.bool _, .int .i64 (fM M s p), .bool (wM M s p)]) rfl (Nat.succ_pos _) hel (by decide) ?_))
             | ((refine z_isdst 56 ?_; refine o_build0 (t := 27) (v := .agg #[.bool false, .int .i64 0, .bool false]) (fun _ => by kernel_rfl) (by decide) ?_))
             | (refine s_is ?_; first
             | (refine s_isagain ?_; first
             | (exact c_again (p + 1) (by omega) (by omega) ⟨rfl, rfl, rfl, rfl, (by rw [show s * 32 + (p + 1) = s * 32 + p + 1 from rfl, hn, List.length_append]; rfl), rfl, rfl, trivial⟩ (fun w h => by rw [show s * 32 + (p + 1) = s * 32 + p + 1 from rfl, ← hr]; exact ((h.sel 2 [1, 0] (by decide)).mask [true, false]))))
             | (refine s_isw ?_; first
             | refine c_seq ?_
             | refine c_block ?_
             | refine c_region ?_
             | refine c_skip ?_
             | (refine s_iscond ?_; first
             | (refine c_true rfl (by first | with_reducible rfl | with_reducible assumption | ((with_reducible refine decide_eq_true ?_); first | with_reducible rfl | with_reducible assumption | omega)) ?_))))
             | (refine z_isg1 ?_; first
             | refine z_skipu (by decide) rfl rfl ?_
             | (refine z_want1 rfl rfl (by first | with_reducible rfl | with_reducible assumption | ((with_reducible refine decide_eq_true ?_); first | with_reducible rfl | with_reducible assumption | omega)) ?_)
             | (refine z_skip1 (by decide) rfl rfl (by first | with_reducible rfl | with_reducible assumption | ((with_reducible refine decide_eq_false ?_); first | with_reducible assumption | omega)) ?_))
             | (refine z_isg0 ?_; first
             | refine z_skipu (by decide) rfl rfl ?_)
             | (refine z_isnil ?_; first
             | refine z_list ?_)
             | (refine z_isop ?_; first
             | refine o_indexm tabOk rfl rfl rfl rfl (by omega) (by omega) (by decide) ?_
             | refine o_indexn tabOk rfl rfl rfl rfl (by omega) (by omega) (by decide) ?_
             | (refine z_isbin ?_; first
             | (refine z_isb .add ?_; first
             | refine o_add rfl rfl (by omega) (by omega) (by decide) ?_)
             | (refine z_isb .eql ?_; first
             | refine o_eq rfl rfl (by decide) ?_)
             | (refine z_isb .lss ?_; first
             | refine o_lt rfl rfl (by decide) ?_))
             | (refine z_isload ?_; first
             | (refine z_ld1 tabOk rfl rfl ?_; first
             | refine o_loadm tabOk rfl rfl rfl (by repeat' (first | exact List.mem_cons_self | apply List.mem_cons_of_mem)) (by first | rfl | rfl) (by decide) ?_))
             | (refine z_isstore ?_; first
             | (refine o_storew_at rfl 1 tabOk rfl rfl rfl rfl (vs := [.bool false, .int .i64 0, .bool false]) rfl rfl (by rw [xs_len]; show s * 96 + p * 3 + 3 ≤ 6144; omega) hput ?_)
             | (refine z_stw rfl ?_; first
             | ((refine z_sti 0 rfl rfl ?_; refine o_storeb0 rfl tabOk rfl rfl rfl (by first | rfl | rfl) (by first | rfl | rfl) (by first | rfl | rfl) ?_))))
             | (refine z_ispick ?_; first
             | (refine o_pick1 rfl (by first | with_reducible rfl | with_reducible assumption | ((with_reducible refine decide_eq_true ?_); first | with_reducible rfl | with_reducible assumption | omega)) rfl (by decide) ?_)
             | (refine o_pick0 rfl (by first | with_reducible rfl | with_reducible assumption | ((with_reducible refine decide_eq_false ?_); first | with_reducible assumption | omega)) rfl (by decide) ?_))
             | refine o_move rfl (by decide) ?_
             | refine o_assign rfl (by decide) ?_
             | refine o_nil rfl (by decide) ?_
             | refine o_field0 tabOk rfl rfl rfl rfl rfl (by decide) ?_))
          · rw [hmn, decide_eq_false h2] at hdm
            have hn := al_no hdm
            have hr := rmM_no (M := M) hdm
            repeat' (first
             | ((refine z_isdst 12 ?_; refine o_alloca (e := 27) (vs := [.bool false, .int .i64 0, .bool false]) rfl (by kernel_rfl) (by decide) fun g12 => ?_))
             | ((refine z_isdst 29 ?_; refine o_loadrw tabOk (cells_rds 0 rfl) rfl rfl rfl (es := [.bool _, .int .i64 (fM M s p), .bool (wM M s p)]) rfl (Nat.succ_pos _) hel (by decide) ?_))
             | (refine s_is ?_; first
             | (refine s_isagain ?_; first
             | (exact c_again (p + 1) (by omega) (by omega) ⟨rfl, rfl, rfl, rfl, (by rw [show s * 32 + (p + 1) = s * 32 + p + 1 from rfl, hn]; rfl), rfl, rfl, trivial⟩ (fun w h => by rw [show s * 32 + (p + 1) = s * 32 + p + 1 from rfl, hr]; exact ((h.sel 2 [1, 0] (by decide)).mask [true, false]))))
             | (refine s_isw ?_; first
             | refine c_seq ?_
             | refine c_block ?_
             | refine c_region ?_
             | refine c_skip ?_
             | (refine s_iscond ?_; first
             | (refine c_true rfl (by first | with_reducible rfl | with_reducible assumption | ((with_reducible refine decide_eq_true ?_); first | with_reducible rfl | with_reducible assumption | omega)) ?_)
             | (refine c_false rfl (by first | with_reducible rfl | with_reducible assumption | ((with_reducible refine decide_eq_false ?_); first | with_reducible assumption | omega)) ?_))))
             | (refine z_isg1 ?_; first
             | refine z_skipu (by decide) rfl rfl ?_
             | (refine z_want1 rfl rfl (by first | with_reducible rfl | with_reducible assumption | ((with_reducible refine decide_eq_true ?_); first | with_reducible rfl | with_reducible assumption | omega)) ?_)
             | (refine z_skip1 (by decide) rfl rfl (by first | with_reducible rfl | with_reducible assumption | ((with_reducible refine decide_eq_false ?_); first | with_reducible assumption | omega)) ?_))
             | (refine z_isg0 ?_; first
             | refine z_skipu (by decide) rfl rfl ?_)
             | (refine z_isnil ?_; first
             | refine z_list ?_)
             | (refine z_isop ?_; first
             | refine o_indexm tabOk rfl rfl rfl rfl (by omega) (by omega) (by decide) ?_
             | refine o_indexn tabOk rfl rfl rfl rfl (by omega) (by omega) (by decide) ?_
             | (refine z_isbin ?_; first
             | (refine z_isb .add ?_; first
             | refine o_add rfl rfl (by omega) (by omega) (by decide) ?_)
             | (refine z_isb .eql ?_; first
             | refine o_eq rfl rfl (by decide) ?_)
             | (refine z_isb .lss ?_; first
             | refine o_lt rfl rfl (by decide) ?_))
             | (refine z_isload ?_; first
             | (refine z_ld1 tabOk rfl rfl ?_; first
             | refine o_loadm tabOk rfl rfl rfl (by repeat' (first | exact List.mem_cons_self | apply List.mem_cons_of_mem)) (by first | rfl | rfl) (by decide) ?_))
             | (refine z_isstore ?_; first
             | (refine z_stw rfl ?_; first
             | ((refine z_sti 0 rfl rfl ?_; refine o_storeb0 rfl tabOk rfl rfl rfl (by first | rfl | rfl) (by first | rfl | rfl) (by first | rfl | rfl) ?_))))
             | (refine z_ispick ?_; first
             | (refine o_pick1 rfl (by first | with_reducible rfl | with_reducible assumption | ((with_reducible refine decide_eq_true ?_); first | with_reducible rfl | with_reducible assumption | omega)) rfl (by decide) ?_)
             | (refine o_pick0 rfl (by first | with_reducible rfl | with_reducible assumption | ((with_reducible refine decide_eq_false ?_); first | with_reducible assumption | omega)) rfl (by decide) ?_))
             | refine o_move rfl (by decide) ?_
             | refine o_assign rfl (by decide) ?_
             | refine o_nil rfl (by decide) ?_
             | refine o_field0 tabOk rfl rfl rfl rfl rfl (by decide) ?_))
        · rw [if_neg h1] at hmn
          by_cases h3 : (s : Int) = sp
          · by_cases h4 : pg < 0
            · rw [hmn, decide_eq_true h3, decide_eq_true h4, Bool.true_or, Bool.true_and] at hdm
              have hn := al_yes hdm
              have hr := hyes hdm
              repeat' (first
               | ((refine z_isdst 12 ?_; refine o_alloca (e := 27) (vs := [.bool false, .int .i64 0, .bool false]) rfl (by kernel_rfl) (by decide) fun g12 => ?_))
               | ((refine z_isdst 29 ?_; refine o_loadrw tabOk (cells_rds 0 rfl) rfl rfl rfl (es := [.bool _, .int .i64 (fM M s p), .bool (wM M s p)]) rfl (Nat.succ_pos _) hel (by decide) ?_))
               | ((refine z_isdst 56 ?_; refine o_build0 (t := 27) (v := .agg #[.bool false, .int .i64 0, .bool false]) (fun _ => by kernel_rfl) (by decide) ?_))
               | (refine s_is ?_; first
               | (refine s_isagain ?_; first
               | (exact c_again (p + 1) (by omega) (by omega) ⟨rfl, rfl, rfl, rfl, (by rw [show s * 32 + (p + 1) = s * 32 + p + 1 from rfl, hn, List.length_append]; rfl), rfl, rfl, trivial⟩ (fun w h => by rw [show s * 32 + (p + 1) = s * 32 + p + 1 from rfl, ← hr]; exact ((h.sel 2 [1, 0] (by decide)).mask [true, false]))))
               | (refine s_isw ?_; first
               | refine c_seq ?_
               | refine c_block ?_
               | refine c_region ?_
               | refine c_skip ?_
               | (refine s_iscond ?_; first
               | (refine c_true rfl (by first | with_reducible rfl | with_reducible assumption | ((with_reducible refine decide_eq_true ?_); first | with_reducible rfl | with_reducible assumption | omega)) ?_)
               | (refine c_false rfl (by first | with_reducible rfl | with_reducible assumption | ((with_reducible refine decide_eq_false ?_); first | with_reducible assumption | omega)) ?_))))
               | (refine z_isg1 ?_; first
               | (refine z_want1 rfl rfl (by first | with_reducible rfl | with_reducible assumption | ((with_reducible refine decide_eq_true ?_); first | with_reducible rfl | with_reducible assumption | omega)) ?_))
               | (refine z_isg0 ?_; first
               | (refine z_skip0 (by decide) rfl rfl (by first | with_reducible rfl | with_reducible assumption | ((with_reducible refine decide_eq_true ?_); first | with_reducible rfl | with_reducible assumption | omega)) ?_))
               | (refine z_isnil ?_; first
               | refine z_list ?_)
               | (refine z_isop ?_; first
               | refine o_indexm tabOk rfl rfl rfl rfl (by omega) (by omega) (by decide) ?_
               | refine o_indexn tabOk rfl rfl rfl rfl (by omega) (by omega) (by decide) ?_
               | (refine z_isbin ?_; first
               | (refine z_isb .add ?_; first
               | refine o_add rfl rfl (by omega) (by omega) (by decide) ?_)
               | (refine z_isb .eql ?_; first
               | refine o_eq rfl rfl (by decide) ?_)
               | (refine z_isb .lss ?_; first
               | refine o_lt rfl rfl (by decide) ?_))
               | (refine z_isload ?_; first
               | (refine z_ld1 tabOk rfl rfl ?_; first
               | refine o_loadm tabOk rfl rfl rfl (by repeat' (first | exact List.mem_cons_self | apply List.mem_cons_of_mem)) (by first | rfl | rfl) (by decide) ?_))
               | (refine z_isstore ?_; first
               | (refine o_storew_at rfl 1 tabOk rfl rfl rfl rfl (vs := [.bool false, .int .i64 0, .bool false]) rfl rfl (by rw [xs_len]; show s * 96 + p * 3 + 3 ≤ 6144; omega) hput ?_)
               | (refine z_stw rfl ?_; first
               | ((refine z_sti 0 rfl rfl ?_; refine o_storeb0 rfl tabOk rfl rfl rfl (by first | rfl | rfl) (by first | rfl | rfl) (by first | rfl | rfl) ?_))))
               | (refine z_ispick ?_; first
               | (refine o_pick1 rfl (by first | with_reducible rfl | with_reducible assumption | ((with_reducible refine decide_eq_true ?_); first | with_reducible rfl | with_reducible assumption | omega)) rfl (by decide) ?_))
               | refine o_move rfl (by decide) ?_
               | refine o_assign rfl (by decide) ?_
               | refine o_nil rfl (by decide) ?_
               | refine o_field0 tabOk rfl rfl rfl rfl rfl (by decide) ?_))
            · by_cases h5 : (p : Int) = pg
              · rw [hmn, decide_eq_true h3, decide_eq_true h5, Bool.or_true, Bool.true_and] at hdm
                have hn := al_yes hdm
                have hr := hyes hdm
                repeat' (first
                 | ((refine z_isdst 12 ?_; refine o_alloca (e := 27) (vs := [.bool false, .int .i64 0, .bool false]) rfl (by kernel_rfl) (by decide) fun g12 => ?_))
                 | ((refine z_isdst 29 ?_; refine o_loadrw tabOk (cells_rds 0 rfl) rfl rfl rfl (es := [.bool _, .int .i64 (fM M s p), .bool (wM M s p)]) rfl (Nat.succ_pos _) hel (by decide) ?_))
                 | ((refine z_isdst 56 ?_; refine o_build0 (t := 27) (v := .agg #[.bool false, .int .i64 0, .bool false]) (fun _ => by kernel_rfl) (by decide) ?_))
                 | (refine s_is ?_; first
                 | (refine s_isagain ?_; first
                 | (exact c_again (p + 1) (by omega) (by omega) ⟨rfl, rfl, rfl, rfl, (by rw [show s * 32 + (p + 1) = s * 32 + p + 1 from rfl, hn, List.length_append]; rfl), rfl, rfl, trivial⟩ (fun w h => by rw [show s * 32 + (p + 1) = s * 32 + p + 1 from rfl, ← hr]; exact ((h.sel 2 [1, 0] (by decide)).mask [true, false]))))
                 | (refine s_isw ?_; first
                 | refine c_seq ?_
                 | refine c_block ?_
                 | refine c_region ?_
                 | refine c_skip ?_
                 | (refine s_iscond ?_; first
                 | (refine c_true rfl (by first | with_reducible rfl | with_reducible assumption | ((with_reducible refine decide_eq_true ?_); first | with_reducible rfl | with_reducible assumption | omega)) ?_)
                 | (refine c_false rfl (by first | with_reducible rfl | with_reducible assumption | ((with_reducible refine decide_eq_false ?_); first | with_reducible assumption | omega)) ?_))))
                 | (refine z_isg1 ?_; first
                 | (refine z_want1 rfl rfl (by first | with_reducible rfl | with_reducible assumption | ((with_reducible refine decide_eq_true ?_); first | with_reducible rfl | with_reducible assumption | omega)) ?_))
                 | (refine z_isg0 ?_; first
                 | (refine z_want0 rfl rfl (by first | with_reducible rfl | with_reducible assumption | ((with_reducible refine decide_eq_false ?_); first | with_reducible assumption | omega)) ?_))
                 | (refine z_isnil ?_; first
                 | refine z_list ?_)
                 | (refine z_isop ?_; first
                 | refine o_indexm tabOk rfl rfl rfl rfl (by omega) (by omega) (by decide) ?_
                 | refine o_indexn tabOk rfl rfl rfl rfl (by omega) (by omega) (by decide) ?_
                 | (refine z_isbin ?_; first
                 | (refine z_isb .add ?_; first
                 | refine o_add rfl rfl (by omega) (by omega) (by decide) ?_)
                 | (refine z_isb .eql ?_; first
                 | refine o_eq rfl rfl (by decide) ?_)
                 | (refine z_isb .lss ?_; first
                 | refine o_lt rfl rfl (by decide) ?_))
                 | (refine z_isload ?_; first
                 | (refine z_ld1 tabOk rfl rfl ?_; first
                 | refine o_loadm tabOk rfl rfl rfl (by repeat' (first | exact List.mem_cons_self | apply List.mem_cons_of_mem)) (by first | rfl | rfl) (by decide) ?_))
                 | (refine z_isstore ?_; first
                 | (refine o_storew_at rfl 1 tabOk rfl rfl rfl rfl (vs := [.bool false, .int .i64 0, .bool false]) rfl rfl (by rw [xs_len]; show s * 96 + p * 3 + 3 ≤ 6144; omega) hput ?_)
                 | (refine z_stw rfl ?_; first
                 | ((refine z_sti 0 rfl rfl ?_; refine o_storeb0 rfl tabOk rfl rfl rfl (by first | rfl | rfl) (by first | rfl | rfl) (by first | rfl | rfl) ?_))))
                 | (refine z_ispick ?_; first
                 | (refine o_pick1 rfl (by first | with_reducible rfl | with_reducible assumption | ((with_reducible refine decide_eq_true ?_); first | with_reducible rfl | with_reducible assumption | omega)) rfl (by decide) ?_)
                 | (refine o_pick0 rfl (by first | with_reducible rfl | with_reducible assumption | ((with_reducible refine decide_eq_false ?_); first | with_reducible assumption | omega)) rfl (by decide) ?_))
                 | refine o_move rfl (by decide) ?_
                 | refine o_assign rfl (by decide) ?_
                 | refine o_nil rfl (by decide) ?_
                 | refine o_field0 tabOk rfl rfl rfl rfl rfl (by decide) ?_))
              · rw [hmn, decide_eq_false h5, decide_eq_false h4, Bool.or_false, Bool.and_false] at hdm
                have hn := al_no hdm
                have hr := rmM_no (M := M) hdm
                repeat' (first
                 | ((refine z_isdst 12 ?_; refine o_alloca (e := 27) (vs := [.bool false, .int .i64 0, .bool false]) rfl (by kernel_rfl) (by decide) fun g12 => ?_))
                 | ((refine z_isdst 29 ?_; refine o_loadrw tabOk (cells_rds 0 rfl) rfl rfl rfl (es := [.bool _, .int .i64 (fM M s p), .bool (wM M s p)]) rfl (Nat.succ_pos _) hel (by decide) ?_))
                 | (refine s_is ?_; first
                 | (refine s_isagain ?_; first
                 | (exact c_again (p + 1) (by omega) (by omega) ⟨rfl, rfl, rfl, rfl, (by rw [show s * 32 + (p + 1) = s * 32 + p + 1 from rfl, hn]; rfl), rfl, rfl, trivial⟩ (fun w h => by rw [show s * 32 + (p + 1) = s * 32 + p + 1 from rfl, hr]; exact ((h.sel 2 [1, 0] (by decide)).mask [true, false]))))
                 | (refine s_isw ?_; first
                 | refine c_seq ?_
                 | refine c_block ?_
                 | refine c_region ?_
                 | refine c_skip ?_
                 | (refine s_iscond ?_; first
                 | (refine c_true rfl (by first | with_reducible rfl | with_reducible assumption | ((with_reducible refine decide_eq_true ?_); first | with_reducible rfl | with_reducible assumption | omega)) ?_)
                 | (refine c_false rfl (by first | with_reducible rfl | with_reducible assumption | ((with_reducible refine decide_eq_false ?_); first | with_reducible assumption | omega)) ?_))))
                 | (refine z_isg1 ?_; first
                 | (refine z_want1 rfl rfl (by first | with_reducible rfl | with_reducible assumption | ((with_reducible refine decide_eq_true ?_); first | with_reducible rfl | with_reducible assumption | omega)) ?_))
                 | (refine z_isg0 ?_; first
                 | (refine z_want0 rfl rfl (by first | with_reducible rfl | with_reducible assumption | ((with_reducible refine decide_eq_false ?_); first | with_reducible assumption | omega)) ?_))
                 | (refine z_isnil ?_; first
                 | refine z_list ?_)
                 | (refine z_isop ?_; first
                 | refine o_indexm tabOk rfl rfl rfl rfl (by omega) (by omega) (by decide) ?_
                 | refine o_indexn tabOk rfl rfl rfl rfl (by omega) (by omega) (by decide) ?_
                 | (refine z_isbin ?_; first
                 | (refine z_isb .add ?_; first
                 | refine o_add rfl rfl (by omega) (by omega) (by decide) ?_)
                 | (refine z_isb .eql ?_; first
                 | refine o_eq rfl rfl (by decide) ?_)
                 | (refine z_isb .lss ?_; first
                 | refine o_lt rfl rfl (by decide) ?_))
                 | (refine z_isload ?_; first
                 | (refine z_ld1 tabOk rfl rfl ?_; first
                 | refine o_loadm tabOk rfl rfl rfl (by repeat' (first | exact List.mem_cons_self | apply List.mem_cons_of_mem)) (by first | rfl | rfl) (by decide) ?_))
                 | (refine z_isstore ?_; first
                 | (refine z_stw rfl ?_; first
                 | ((refine z_sti 0 rfl rfl ?_; refine o_storeb0 rfl tabOk rfl rfl rfl (by first | rfl | rfl) (by first | rfl | rfl) (by first | rfl | rfl) ?_))))
                 | (refine z_ispick ?_; first
                 | (refine o_pick1 rfl (by first | with_reducible rfl | with_reducible assumption | ((with_reducible refine decide_eq_true ?_); first | with_reducible rfl | with_reducible assumption | omega)) rfl (by decide) ?_)
                 | (refine o_pick0 rfl (by first | with_reducible rfl | with_reducible assumption | ((with_reducible refine decide_eq_false ?_); first | with_reducible assumption | omega)) rfl (by decide) ?_))
                 | refine o_move rfl (by decide) ?_
                 | refine o_assign rfl (by decide) ?_
                 | refine o_nil rfl (by decide) ?_
                 | refine o_field0 tabOk rfl rfl rfl rfl rfl (by decide) ?_))
          · rw [hmn, decide_eq_false h3, Bool.false_and] at hdm
            have hn := al_no hdm
            have hr := rmM_no (M := M) hdm
            repeat' (first
             | ((refine z_isdst 12 ?_; refine o_alloca (e := 27) (vs := [.bool false, .int .i64 0, .bool false]) rfl (by kernel_rfl) (by decide) fun g12 => ?_))
             | ((refine z_isdst 29 ?_; refine o_loadrw tabOk (cells_rds 0 rfl) rfl rfl rfl (es := [.bool _, .int .i64 (fM M s p), .bool (wM M s p)]) rfl (Nat.succ_pos _) hel (by decide) ?_))
             | (refine s_is ?_; first
             | (refine s_isagain ?_; first
             | (exact c_again (p + 1) (by omega) (by omega) ⟨rfl, rfl, rfl, rfl, (by rw [show s * 32 + (p + 1) = s * 32 + p + 1 from rfl, hn]; rfl), rfl, rfl, trivial⟩ (fun w h => by rw [show s * 32 + (p + 1) = s * 32 + p + 1 from rfl, hr]; exact ((h.sel 2 [1, 0] (by decide)).mask [true, false]))))
             | (refine s_isw ?_; first
             | refine c_seq ?_
             | refine c_block ?_
             | refine c_region ?_
             | refine c_skip ?_
             | (refine s_iscond ?_; first
             | (refine c_true rfl (by first | with_reducible rfl | with_reducible assumption | ((with_reducible refine decide_eq_true ?_); first | with_reducible rfl | with_reducible assumption | omega)) ?_)
             | (refine c_false rfl (by first | with_reducible rfl | with_reducible assumption | ((with_reducible refine decide_eq_false ?_); first | with_reducible assumption | omega)) ?_))))
             | (refine z_isg1 ?_; first
             | refine z_skipu (by decide) rfl rfl ?_
             | (refine z_want1 rfl rfl (by first | with_reducible rfl | with_reducible assumption | ((with_reducible refine decide_eq_true ?_); first | with_reducible rfl | with_reducible assumption | omega)) ?_)
             | (refine z_skip1 (by decide) rfl rfl (by first | with_reducible rfl | with_reducible assumption | ((with_reducible refine decide_eq_false ?_); first | with_reducible assumption | omega)) ?_))
             | (refine z_isg0 ?_; first
             | refine z_skipu (by decide) rfl rfl ?_)
             | (refine z_isnil ?_; first
             | refine z_list ?_)
             | (refine z_isop ?_; first
             | refine o_indexm tabOk rfl rfl rfl rfl (by omega) (by omega) (by decide) ?_
             | refine o_indexn tabOk rfl rfl rfl rfl (by omega) (by omega) (by decide) ?_
             | (refine z_isbin ?_; first
             | (refine z_isb .add ?_; first
             | refine o_add rfl rfl (by omega) (by omega) (by decide) ?_)
             | (refine z_isb .eql ?_; first
             | refine o_eq rfl rfl (by decide) ?_)
             | (refine z_isb .lss ?_; first
             | refine o_lt rfl rfl (by decide) ?_))
             | (refine z_isload ?_; first
             | (refine z_ld1 tabOk rfl rfl ?_; first
             | refine o_loadm tabOk rfl rfl rfl (by repeat' (first | exact List.mem_cons_self | apply List.mem_cons_of_mem)) (by first | rfl | rfl) (by decide) ?_))
             | (refine z_isstore ?_; first
             | (refine z_stw rfl ?_; first
             | ((refine z_sti 0 rfl rfl ?_; refine o_storeb0 rfl tabOk rfl rfl rfl (by first | rfl | rfl) (by first | rfl | rfl) (by first | rfl | rfl) ?_))))
             | (refine z_ispick ?_; first
             | (refine o_pick1 rfl (by first | with_reducible rfl | with_reducible assumption | ((with_reducible refine decide_eq_true ?_); first | with_reducible rfl | with_reducible assumption | omega)) rfl (by decide) ?_)
             | (refine o_pick0 rfl (by first | with_reducible rfl | with_reducible assumption | ((with_reducible refine decide_eq_false ?_); first | with_reducible assumption | omega)) rfl (by decide) ?_))
             | refine o_move rfl (by decide) ?_
             | refine o_assign rfl (by decide) ?_
             | refine o_nil rfl (by decide) ?_
             | refine o_field0 tabOk rfl rfl rfl rfl rfl (by decide) ?_))
    · obtain rfl : p = 32 := by omega
      repeat' (first
       | (refine s_is ?_; first
       | (refine s_isagain ?_; first
       | (exact c_again (s + 1) (by omega) (by omega) ⟨rfl, rfl, rfl, rfl, (by rw [show (s + 1) * 32 = s * 32 + 32 by omega]; rfl), rfl, trivial⟩ (fun w h => by rw [show (s + 1) * 32 = s * 32 + 32 by omega]; exact h)))
       | (refine s_isw ?_; first
       | refine c_seq ?_
       | refine c_region ?_
       | refine c_exit ?_
       | (refine s_iscond ?_; first
       | (refine c_false rfl (by first | with_reducible rfl | with_reducible assumption | ((with_reducible refine decide_eq_false ?_); first | with_reducible assumption | omega)) ?_))))
       | (refine z_isnil ?_; first
       | refine z_list ?_)
       | (refine z_isop ?_; first
       | (refine z_isbin ?_; first
       | (refine z_isb .add ?_; first
       | refine o_add rfl rfl (by omega) (by omega) (by decide) ?_)
       | (refine z_isb .lss ?_; first
       | refine o_lt rfl rfl (by decide) ?_))
       | refine o_move rfl (by decide) ?_
       | refine o_assign rfl (by decide) ?_))
  · obtain rfl : s = 64 := by omega
    repeat' (first
     | (refine s_is ?_; first
     | (refine s_isret ?_; first
     | exact f_r1 rfl (res_t rfl) () trivial rfl (fun w h => h))
     | (refine s_isw ?_; first
     | refine c_seq ?_
     | refine c_region ?_
     | refine c_ret ?_
     | refine c_exit ?_
     | (refine s_iscond ?_; first
     | (refine c_false rfl (by first | with_reducible rfl | with_reducible assumption | ((with_reducible refine decide_eq_false ?_); first | with_reducible assumption | omega)) ?_))))
     | (refine z_isnil ?_; first
     | refine z_list ?_)
     | (refine z_isop ?_; first
     | (refine z_isbin ?_; first
     | (refine z_isb .lss ?_; first
     | refine o_lt rfl rfl (by decide) ?_))
     | refine o_move rfl (by decide) ?_
     | refine o_assign rfl (by decide) ?_))
end Go.Proofs.Ytnckabgaichkkaa
