/-
Bind: the table: made, asked, written.
-/
import Derived.Test.YtnckabgaichkkaaEngC
import Derived.Test.YtnckabgaichkkaaEngZ
import Derived.Test.YtnckabgaichkkaaEngA
import Derived.Test.YtnckabgaichkkaaTab
namespace Go.Proofs.Ytnckabgaichkkaa
set_option linter.unusedVariables false
set_option linter.unusedSimpArgs false
open Eng
theorem cmp_k : Cmp Try.prog 82 [.int .i64, .int .i64] := ⟨by kernel_rfl, .inr ⟨_, Try.underlying82⟩, by kernel_rfl⟩
theorem eqk {P : Program} {k : TypeId} (h : Cmp P k [.int .i64, .int .i64]) (w : World) (s p s' p' : Int) : (Op.equal k (pk s p) (pk s' p')).run P w = .ok (decide (s = s') && decide (p = p')) w := by
  have := (flat_at 20 k _ h.flat 10000 (by omega)).2 h.agg #[.int .i64 s, .int .i64 p] #[.int .i64 s', .int .i64 p'] w ⟨rfl, rfl, trivial⟩ ⟨rfl, rfl, trivial⟩
  have e : eqB [Value.int .i64 s, Value.int .i64 p] [Value.int .i64 s', Value.int .i64 p'] = (decide (s = s') && decide (p = p')) := by
    simp only [eqB, Bool.and_true]
    rfl
  rw [← e]
  exact this
theorem mtB : Mt Try.prog 76 82 36 where
  ty := Try.underlying76
  str := ⟨_, Try.underlying82⟩
  check w em s p := by
    have hint : ∀ (n : Nat) (i : Int), (Instr.checkKey em (n + 1) 3 (.int .i64 i)).run Try.prog w = .ok () w := fun n i => by
      unfold Instr.checkKey
      simp [run_underlying Try.underlying3, Sem.run_pure]
    have hst : ∀ n : Nat, (Instr.checkKey em (n + 2) 82 (.agg #[.int .i64 s, .int .i64 p])).run Try.prog w = .ok () w := fun n => by
      unfold Instr.checkKey
      simp only [Sem.run_bind, run_underlying Try.underlying82, Result.andThen]
      have hp0 : (part 3 #[.int .i64 s, .int .i64 p] 0).run Try.prog w = .ok (.int .i64 s) w := by
        simp [part, isAgg, run_underlying Try.underlying3, Sem.run_pure, Result.andThen]
      have hp1 : (part 3 #[.int .i64 s, .int .i64 p] 1).run Try.prog w = .ok (.int .i64 p) w := by
        simp [part, isAgg, run_underlying Try.underlying3, Sem.run_pure, Result.andThen]
      simp [hp0, hp1, hint, Sem.run_bind, Result.andThen, Sem.run_pure]
    exact hst 9998
  eq w s p s' p' := eqk cmp_k w s p s' p'
  zero w := by
    have hz : (Try.prog.info? 36).map (·.zero) = some (some (bv 0 false)) := by kernel_rfl
    cases hi : Try.prog.info? 36 with
    | none => rw [hi] at hz; cases hz
    | some i =>
      rw [hi] at hz
      simp at hz
      simp [zeroValue, typeInfo, hi, hz, Sem.run_pure, Result.andThen]
theorem cmp_s : Cmp Try.prog 72 [.int .i64, .int .i64] := ⟨by kernel_rfl, .inr ⟨_, Try.underlying72⟩, by kernel_rfl⟩
theorem mtS : Mt Try.prog 87 72 36 where
  ty := Try.underlying87
  str := ⟨_, Try.underlying72⟩
  check w em s p := by
    have hint : ∀ (n : Nat) (i : Int), (Instr.checkKey em (n + 1) 3 (.int .i64 i)).run Try.prog w = .ok () w := fun n i => by
      unfold Instr.checkKey
      simp [run_underlying Try.underlying3, Sem.run_pure]
    have hst : ∀ n : Nat, (Instr.checkKey em (n + 2) 72 (.agg #[.int .i64 s, .int .i64 p])).run Try.prog w = .ok () w := fun n => by
      unfold Instr.checkKey
      simp only [Sem.run_bind, run_underlying Try.underlying72, Result.andThen]
      have hp0 : (part 3 #[.int .i64 s, .int .i64 p] 0).run Try.prog w = .ok (.int .i64 s) w := by
        simp [part, isAgg, run_underlying Try.underlying3, Sem.run_pure, Result.andThen]
      have hp1 : (part 3 #[.int .i64 s, .int .i64 p] 1).run Try.prog w = .ok (.int .i64 p) w := by
        simp [part, isAgg, run_underlying Try.underlying3, Sem.run_pure, Result.andThen]
      simp [hp0, hp1, hint, Sem.run_bind, Result.andThen, Sem.run_pure]
    exact hst 9998
  eq w s p s' p' := eqk cmp_s w s p s' p'
  zero w := by
    have hz : (Try.prog.info? 36).map (·.zero) = some (some (bv 0 false)) := by kernel_rfl
    cases hi : Try.prog.info? 36 with
    | none => rw [hi] at hz; cases hz
    | some i =>
      rw [hi] at hz
      simp at hz
      simp [zeroValue, typeInfo, hi, hz, Sem.run_pure, Result.andThen]
theorem upM_same (M : Mp) (s p : Int) (v : Int × Bool) : upM M s p v s p = some v := by unfold upM; rw [if_pos ⟨rfl, rfl⟩]
theorem onM_none {M : Mp} {s p : Int} (h : onM M s p = false) : M s p = none := by
  unfold onM at h
  cases e : M s p with
  | none => rfl
  | some v => rw [e] at h; cases h
theorem onM_some {M : Mp} {s p : Int} (h : onM M s p = true) : M s p = some (fM M s p, wM M s p) := by
  unfold onM at h
  unfold fM wM
  cases e : M s p with
  | none => rw [e] at h; cases h
  | some v => rfl
theorem delM_off {M : Mp} {s p : Int} (h : onM M s p = false) : delM M s p = M := by
  funext a c
  unfold delM
  split
  · rename_i e; rw [e.1, e.2, onM_none h]
  · rfl
/-- The places of a map are there. -/
def WM (M : Mp) : Prop := ∀ s p, M s p ≠ none → 0 ≤ s ∧ s < 64 ∧ 0 ≤ p ∧ p < 32
theorem wm_no : WM noM := fun s p h => absurd rfl h
theorem WM.up {M : Mp} (h : WM M) {s p : Int} (hs : 0 ≤ s ∧ s < 64 ∧ 0 ≤ p ∧ p < 32) (v : Int × Bool) : WM (upM M s p v) := fun a c hac => by
  unfold upM at hac
  split at hac
  · rename_i e; rw [e.1, e.2]; exact hs
  · exact h a c hac
theorem WM.del {M : Mp} (h : WM M) (s p : Int) : WM (delM M s p) := fun a c hac => by
  unfold delM at hac
  split at hac
  · exact absurd rfl hac
  · exact h a c hac
attribute [local irreducible] Eng.Hold Eng.Z Eng.S Eng.cells Eng.old Eng.own Eng.mpc Eng.rgc Eng.onM Eng.fM Eng.wM Eng.upM Eng.delM
theorem may_y (s p : Int) (h : 0 ≤ s ∧ s < 64 ∧ 0 ≤ p ∧ p < 32) : Pf Try.prog 48 [.int .i64 s, .int .i64 p] (.bool true) := by
  intro w hw
  obtain ⟨h0, h1, h2, h3⟩ := h
  refine f_enter Try.func48 rfl Try.ntmps48 rfl hw ?_
  repeat' (first
   | (refine s_is ?_; first
   | (refine s_isret ?_; first
   | exact p_r1 rfl (res_t (congrArg some (congrArg Value.bool (decide_eq_true h3)))))
   | (refine s_isw ?_; first
   | refine c_seq ?_
   | refine c_region ?_
   | refine c_ret ?_))
   | (refine z_isg1 ?_; first
   | (refine z_want1 rfl rfl (by first | with_reducible rfl | with_reducible assumption | ((with_reducible refine decide_eq_true ?_); first | with_reducible rfl | with_reducible assumption | omega)) ?_))
   | (refine z_isnil ?_; first
   | refine z_list ?_)
   | (refine z_isop ?_; first
   | (refine z_isbin ?_; first
   | (refine z_isb .lss ?_; first
   | refine o_lt rfl rfl (by decide) ?_)
   | (refine z_isb .geq ?_; first
   | refine o_ge rfl rfl (by decide) ?_))
   | (refine z_ispick ?_; first
   | (refine o_pick1 rfl (by first | with_reducible rfl | with_reducible assumption | ((with_reducible refine decide_eq_true ?_); first | with_reducible rfl | with_reducible assumption | omega)) rfl (by decide) ?_))
   | refine o_move rfl (by decide) ?_
   | refine o_assign rfl (by decide) ?_))
theorem may_n (s p : Int) (h : ¬ (0 ≤ s ∧ s < 64 ∧ 0 ≤ p ∧ p < 32)) : Pf Try.prog 48 [.int .i64 s, .int .i64 p] (.bool false) := by
  intro w hw
  refine f_enter Try.func48 rfl Try.ntmps48 rfl hw ?_
  by_cases h0 : 0 ≤ s
  · by_cases h1 : s < 64
    · by_cases h2 : 0 ≤ p
      · have h3 : ¬ p < 32 := fun e => h ⟨h0, h1, h2, e⟩
        repeat' (first
         | (refine s_is ?_; first
         | (refine s_isret ?_; first
         | exact p_r1 rfl (res_t (congrArg some (congrArg Value.bool (decide_eq_false h3)))))
         | (refine s_isw ?_; first
         | refine c_seq ?_
         | refine c_region ?_
         | refine c_ret ?_))
         | (refine z_isg1 ?_; first
         | (refine z_want1 rfl rfl (by first | with_reducible rfl | with_reducible assumption | ((with_reducible refine decide_eq_true ?_); first | with_reducible rfl | with_reducible assumption | omega)) ?_))
         | (refine z_isnil ?_; first
         | refine z_list ?_)
         | (refine z_isop ?_; first
         | (refine z_isbin ?_; first
         | (refine z_isb .lss ?_; first
         | refine o_lt rfl rfl (by decide) ?_)
         | (refine z_isb .geq ?_; first
         | refine o_ge rfl rfl (by decide) ?_))
         | (refine z_ispick ?_; first
         | (refine o_pick1 rfl (by first | with_reducible rfl | with_reducible assumption | ((with_reducible refine decide_eq_true ?_); first | with_reducible rfl | with_reducible assumption | omega)) rfl (by decide) ?_))
         | refine o_move rfl (by decide) ?_
         | refine o_assign rfl (by decide) ?_))
      · skip
        repeat' (first
         | (refine s_is ?_; first
         | (refine s_isret ?_; first
         | exact p_r1 rfl (res_t rfl))
         | (refine s_isw ?_; first
         | refine c_seq ?_
         | refine c_region ?_
         | refine c_ret ?_))
         | (refine z_isg1 ?_; first
         | (refine z_want1 rfl rfl (by first | with_reducible rfl | with_reducible assumption | ((with_reducible refine decide_eq_true ?_); first | with_reducible rfl | with_reducible assumption | omega)) ?_)
         | (refine z_skip1 (by decide) rfl rfl (by first | with_reducible rfl | with_reducible assumption | ((with_reducible refine decide_eq_false ?_); first | with_reducible assumption | omega)) ?_))
         | (refine z_isnil ?_; first
         | refine z_list ?_)
         | (refine z_isop ?_; first
         | (refine z_isbin ?_; first
         | (refine z_isb .lss ?_; first
         | refine o_lt rfl rfl (by decide) ?_)
         | (refine z_isb .geq ?_; first
         | refine o_ge rfl rfl (by decide) ?_))
         | (refine z_ispick ?_; first
         | (refine o_pick1 rfl (by first | with_reducible rfl | with_reducible assumption | ((with_reducible refine decide_eq_true ?_); first | with_reducible rfl | with_reducible assumption | omega)) rfl (by decide) ?_)
         | (refine o_pick0 rfl (by first | with_reducible rfl | with_reducible assumption | ((with_reducible refine decide_eq_false ?_); first | with_reducible assumption | omega)) rfl (by decide) ?_))
         | refine o_move rfl (by decide) ?_
         | refine o_assign rfl (by decide) ?_))
    · skip
      repeat' (first
       | (refine s_is ?_; first
       | (refine s_isret ?_; first
       | exact p_r1 rfl (res_t rfl))
       | (refine s_isw ?_; first
       | refine c_seq ?_
       | refine c_region ?_
       | refine c_ret ?_))
       | (refine z_isg1 ?_; first
       | (refine z_want1 rfl rfl (by first | with_reducible rfl | with_reducible assumption | ((with_reducible refine decide_eq_true ?_); first | with_reducible rfl | with_reducible assumption | omega)) ?_)
       | (refine z_skip1 (by decide) rfl rfl (by first | with_reducible rfl | with_reducible assumption | ((with_reducible refine decide_eq_false ?_); first | with_reducible assumption | omega)) ?_))
       | (refine z_isnil ?_; first
       | refine z_list ?_)
       | (refine z_isop ?_; first
       | (refine z_isbin ?_; first
       | (refine z_isb .lss ?_; first
       | refine o_lt rfl rfl (by decide) ?_)
       | (refine z_isb .geq ?_; first
       | refine o_ge rfl rfl (by decide) ?_))
       | (refine z_ispick ?_; first
       | (refine o_pick1 rfl (by first | with_reducible rfl | with_reducible assumption | ((with_reducible refine decide_eq_true ?_); first | with_reducible rfl | with_reducible assumption | omega)) rfl (by decide) ?_)
       | (refine o_pick0 rfl (by first | with_reducible rfl | with_reducible assumption | ((with_reducible refine decide_eq_false ?_); first | with_reducible assumption | omega)) rfl (by decide) ?_))
       | refine o_move rfl (by decide) ?_
       | refine o_assign rfl (by decide) ?_))
  · skip
    repeat' (first
     | (refine s_is ?_; first
     | (refine s_isret ?_; first
     | exact p_r1 rfl (res_t rfl))
     | (refine s_isw ?_; first
     | refine c_seq ?_
     | refine c_region ?_
     | refine c_ret ?_))
     | (refine z_isg1 ?_; first
     | (refine z_skip1 (by decide) rfl rfl (by first | with_reducible rfl | with_reducible assumption | ((with_reducible refine decide_eq_false ?_); first | with_reducible assumption | omega)) ?_))
     | (refine z_isnil ?_; first
     | refine z_list ?_)
     | (refine z_isop ?_; first
     | (refine z_isbin ?_; first
     | (refine z_isb .geq ?_; first
     | refine o_ge rfl rfl (by decide) ?_))
     | (refine z_ispick ?_; first
     | (refine o_pick0 rfl (by first | with_reducible rfl | with_reducible assumption | ((with_reducible refine decide_eq_false ?_); first | with_reducible assumption | omega)) rfl (by decide) ?_))
     | refine o_move rfl (by decide) ?_
     | refine o_assign rfl (by decide) ?_))
theorem bnew_c (fr : List Chunk) : Does Try.prog 10 [] fr (fun _ : Nat × Nat => True) (fun x => .pointer (some ⟨x.1, 0, none⟩)) (fun x => cells x.1 78 [.map (some x.2)] :: mpc x.2 noM :: fr) := by
  intro w hw
  refine f_enter Try.func10 rfl Try.ntmps10 rfl hw ?_
  repeat' (first
   | ((refine z_isdst 2 ?_; refine o_build (v := .agg #[.map (some gm)]) rfl (fun _ => by kernel_rfl) (by decide) ?_))
   | ((refine z_isdst 3 ?_; refine o_boxa (vs := [.map (some gm)]) rfl rfl (by decide) fun g => ?_))
   | (refine s_is ?_; first
   | (refine s_isret ?_; first
   | exact f_r1 rfl (res_t rfl) (g, gm) trivial rfl (fun w h => h))
   | (refine s_isw ?_; first
   | refine c_seq ?_
   | refine c_region ?_
   | refine c_ret ?_))
   | (refine z_isnil ?_; first
   | refine z_list ?_)
   | (refine z_isop ?_; first
   | refine o_makemap (by decide) fun gm => ?_
   | refine o_assign rfl (by decide) ?_))
theorem bget_c (b m : Nat) (M : Mp) (s p : Int) (fr : List Chunk) : Does Try.prog 12 [.pointer (some ⟨b, 0, none⟩), .int .i64 s, .int .i64 p] (cells b 78 [.map (some m)] :: mpc m M :: fr) (fun _ : Unit => True) (fun _ => .tuple #[.agg #[.int .i64 (fM M s p), .bool (wM M s p)], .bool (onM M s p)]) (fun _ => cells b 78 [.map (some m)] :: mpc m M :: fr) := by
  intro w hw
  refine f_enter Try.func12 rfl Try.ntmps12 rfl hw ?_
  repeat' (first
   | ((refine z_isdst 6 ?_; refine o_alloca (e := 36) (vs := [.int .i64 0, .bool false]) rfl (by kernel_rfl) (by decide) fun g6 => ?_))
   | ((refine z_isdst 8 ?_; refine o_alloca (e := 36) (vs := [.int .i64 0, .bool false]) rfl (by kernel_rfl) (by decide) fun g8 => ?_))
   | ((refine z_isdst 20 ?_; refine o_buildf (t := 82) (zs := [.int .i64 0, .int .i64 0]) (vs := [.int .i64 _, .int .i64 _]) tabOk rfl rfl (by kernel_rfl) rfl ⟨_, _, rfl, rfl, Nat.le_of_ble_eq_true rfl, _, _, rfl, rfl, Nat.le_of_ble_eq_true rfl, rfl⟩ (by decide) ?_))
   | ((refine z_isdst 21 ?_; refine o_lookm mtB rfl rfl 2 rfl (by decide) ?_))
   | (refine s_is ?_; first
   | (refine s_isret ?_; first
   | exact f_r2 rfl (res_c tabOk rfl rfl rfl 1 rfl rfl) (res_t rfl) () trivial rfl (fun w h => ((h.sel 4 [2, 3, 0, 1] (by decide)).mask [true, true, false, false])))
   | (refine s_isw ?_; first
   | refine c_seq ?_
   | refine c_region ?_
   | refine c_skip ?_
   | refine c_ret ?_
   | (refine s_iscond ?_; first
   | (refine c_false rfl (by first | (simp only [Bool.not_eq_false', decide_eq_true_eq]; omega) | (with_reducible assumption) | (rw [decide_eq_false] <;> (first | omega | with_reducible rfl)) | (rw [decide_eq_true] <;> (first | omega | with_reducible rfl)) | (simp; done) | (simp; omega)) ?_))))
   | (refine z_isnil ?_; first
   | refine z_list ?_)
   | (refine z_isop ?_; first
   | (refine z_isbin ?_; first
   | (refine z_isb .eql ?_; first
   | refine o_peq tabOk rfl rfl (by decide) ?_))
   | (refine z_isload ?_; first
   | (refine z_ld1 tabOk rfl rfl ?_; first
   | refine o_loadm tabOk rfl rfl rfl (by repeat' (first | exact List.mem_cons_self | apply List.mem_cons_of_mem)) (by first | rfl | rfl) (by decide) ?_)
   | (refine z_ldw tabOk rfl rfl ?_; first
   | refine o_loadwm tabOk rfl rfl rfl (by repeat' (first | exact List.mem_cons_self | apply List.mem_cons_of_mem)) (by first | rfl | rfl) (by decide) ?_))
   | (refine z_isstore ?_; first
   | (refine z_stw rfl ?_; first
   | ((refine z_sti 0 rfl rfl ?_; refine o_storeb0 rfl tabOk rfl rfl rfl (by first | rfl | rfl) (by first | rfl | rfl) (by first | rfl | rfl) ?_))
   | ((refine z_sti 1 rfl rfl ?_; refine o_storeb1 rfl tabOk rfl rfl rfl (by first | rfl | rfl) (by first | rfl | rfl) (by first | rfl | rfl) ?_))))
   | refine o_move rfl (by decide) ?_
   | refine o_assign rfl (by decide) ?_
   | refine o_nil rfl (by decide) ?_
   | refine o_extract rfl rfl (by decide) ?_
   | refine o_field0 tabOk rfl rfl rfl rfl rfl (by decide) ?_))
end Go.Proofs.Ytnckabgaichkkaa
