/-
Bind: the same numbers; the law's own probe.
-/
import Derived.Test.YtnckabgaichkkaaBx4
namespace Go.Proofs.Ytnckabgaichkkaa
set_option linter.unusedVariables false
set_option linter.unusedSimpArgs false
open Eng
theorem ilS_len (L : List Int) : (ilS L).length = L.length := List.length_map _
theorem ilS_at {L : List Int} {k : Nat} (h : k < L.length) : (ilS L)[((k : Int)).toNat]? = some (.int .i64 (L.getD k 0)) := by simp [ilS, h]
theorem ilS_ne {fr : List Chunk} {A : Option Addr} {L : List Int} {w : World} (hrd : Rds fr A (ilS L)) (hw : Pre w fr) : 0 < L.length → A ≠ none := fun h => hrd.ne hw (by rw [ilS_len]; exact h)
theorem cmp_pair : Cmp Try.prog 45 [.int .i64, .int .i64] := ⟨by kernel_rfl, .inl ⟨_, _, Try.underlying45⟩, by kernel_rfl⟩
theorem eqB_pair (x : Int × Int) : eqB (prc x) (prc x) = true := by
  have h : Typed [.int .i64, .int .i64] (prc x) := ⟨rfl, rfl, trivial⟩
  exact (eqB_iff h h).2 rfl
def aM1 : Mp := upM noM 1 2 (5, false)
def aM2 : Mp := upM aM1 0 9 (5, false)
theorem aM1_wm : WM aM1 := wm_no.up (by decide) _
theorem aM2_wm : WM aM2 := aM1_wm.up (by decide) _
theorem aM2_uss : uss aM2 5 = [(0, 9), (1, 2)] := by decide +kernel
theorem aM2_gone : ∀ s p : Int, (s, p) ∈ ([] : List (Int × Int)) ↔ dls aM2 (uss aM2 5) s p ≠ none := fun s p => by
  constructor
  · intro h; cases h
  · intro h
    rw [aM2_uss] at h
    refine absurd ?_ h
    unfold dls
    by_cases h1 : (s, p) ∈ [((0 : Int), (9 : Int)), (1, 2)]
    · rw [if_pos h1]
    · rw [if_neg h1]
      unfold aM2 aM1 upM noM
      rw [if_neg (fun e => h1 (by rw [e.1, e.2]; simp)), if_neg (fun e => h1 (by rw [e.1, e.2]; simp))]
theorem put_1 (b m : Nat) (fr : List Chunk) : Does Try.prog 22 [.pointer (some ⟨b, 0, none⟩), .int .i64 1, .int .i64 2, .agg #[.int .i64 5, .bool false]] (cells b 78 [.map (some m)] :: mpc m noM :: fr) (fun _ : Unit => True) (fun _ => .bool true) (fun _ => cells b 78 [.map (some m)] :: mpc m aM1 :: fr) := bput_y b m noM 1 2 5 false (by decide) (by decide) fr
theorem put_2 (b m : Nat) (fr : List Chunk) : Does Try.prog 22 [.pointer (some ⟨b, 0, none⟩), .int .i64 0, .int .i64 9, .agg #[.int .i64 5, .bool false]] (cells b 78 [.map (some m)] :: mpc m aM1 :: fr) (fun _ : Unit => True) (fun _ => .bool true) (fun _ => cells b 78 [.map (some m)] :: mpc m aM2 :: fr) := bput_y b m aM1 0 9 5 false (by decide) (by decide) fr
theorem uses_2 (b m : Nat) (fr : List Chunk) : Does Try.prog 17 [.pointer (some ⟨b, 0, none⟩), .int .i64 5] (cells b 78 [.map (some m)] :: mpc m aM2 :: fr) (fun _ : Option Addr × Nat => True) (fun x => .slice x.1 2 x.2) (fun x => own x.1 x.2 45 2 2 (pcs [(0, 9), (1, 2)]) :: cells b 78 [.map (some m)] :: mpc m aM2 :: fr) := by
  have h := buses_c b m aM2 aM2_wm 5 fr
  rw [aM2_uss] at h
  exact h
theorem rel_2 (b m : Nat) (fr : List Chunk) : Does Try.prog 21 [.pointer (some ⟨b, 0, none⟩), .int .i64 5] (cells b 78 [.map (some m)] :: mpc m aM2 :: fr) (fun _ : Unit => True) (fun _ => .int .i64 2) (fun _ => cells b 78 [.map (some m)] :: mpc m (dls aM2 (uss aM2 5)) :: fr) := by
  have h := brelease_c b m aM2 aM2_wm 5 fr
  rw [show (uss aM2 5).length = 2 by rw [aM2_uss]; rfl] at h
  exact h
theorem len_2 (b m : Nat) (fr : List Chunk) : Does Try.prog 19 [.pointer (some ⟨b, 0, none⟩)] (cells b 78 [.map (some m)] :: mpc m (dls aM2 (uss aM2 5)) :: fr) (fun _ : Unit => True) (fun _ => .int .i64 0) (fun _ => cells b 78 [.map (some m)] :: mpc m (dls aM2 (uss aM2 5)) :: fr) := blen_c b m _ [] List.nodup_nil aM2_gone fr
attribute [local irreducible] Eng.Hold Eng.Z Eng.S Eng.cells Eng.old Eng.own Eng.mpc Eng.rgc Eng.onM Eng.fM Eng.wM Eng.upM Eng.delM
attribute [local irreducible] uss pcs pgs ilS dls row xs dmf rmM aM1 aM2 eqB
theorem ssame_c (L : List Int) (A B : Option Addr) (c e : Nat) (fr : List Chunk) (hrd : Rds fr A (ilS L)) (hrd2 : Rds fr B (ilS L)) (hx : L.length ≤ 9223372036854775807) : Does Try.prog 14 [.slice A L.length c, .slice B L.length e] fr (fun _ : Unit => True) (fun _ => .bool true) (fun _ => fr) := by
  intro w hw
  have hne := ilS_ne hrd hw
  have hne2 := ilS_ne hrd2 hw
  refine f_enter Try.func14 rfl Try.ntmps14 rfl hw ?_
  repeat' (first
   | (refine s_is ?_; first
   | (refine s_isw ?_; first
   | (refine s_isloop ?_; first
   | ((refine c_loop (X := Nat) (fun k => k ≤ L.length) (fun k => [(0, .slice A L.length c), (1, .slice B L.length e), (5, .int .i64 k)]) (fun _ => fr) (fun k => L.length - k) 0 (Nat.zero_le _) ⟨rfl, rfl, rfl, trivial⟩ (fun w h => h) (fun k hk => ?_); refine hold ?_)))
   | refine c_seq ?_
   | refine c_block ?_
   | refine c_region ?_
   | refine c_skip ?_
   | (refine s_iscond ?_; first
   | (refine c_false rfl (by first | with_reducible rfl | with_reducible assumption | ((with_reducible refine decide_eq_false ?_); first | with_reducible assumption | omega)) ?_))))
   | (refine z_isnil ?_; first
   | refine z_list ?_)
   | (refine z_isop ?_; first
   | (refine z_isbin ?_; first
   | (refine z_isb .neq ?_; first
   | refine o_ne rfl rfl (by decide) ?_))
   | (refine z_isbi ?_; first
   | refine o_len tabOk rfl rfl (by decide) ?_)
   | refine o_move rfl (by decide) ?_
   | refine o_assign rfl (by decide) ?_))
  refine Hold.go ?_
  by_cases hl : k < L.length
  · skip
    repeat' (first
     | (refine s_is ?_; first
     | (refine s_isagain ?_; first
     | exact c_again (k + 1) (by omega) (by omega) ⟨rfl, rfl, rfl, trivial⟩ (fun w h => h))
     | (refine s_isw ?_; first
     | refine c_seq ?_
     | refine c_block ?_
     | refine c_region ?_
     | refine c_mixed mixed (by kernel_rfl) ?_
     | refine c_skip ?_
     | (refine s_iscond ?_; first
     | (refine c_true rfl (by first | with_reducible rfl | with_reducible assumption | ((with_reducible refine decide_eq_true ?_); first | with_reducible rfl | with_reducible assumption | omega)) ?_)
     | (refine c_false rfl (by first | with_reducible rfl | with_reducible assumption | ((with_reducible refine decide_eq_false ?_); first | with_reducible assumption | omega)) ?_))))
     | (refine z_isnil ?_; first
     | refine z_list ?_
     | refine z_mixed ?_)
     | (refine z_isop ?_; first
     | refine o_indexs1 tabOk (hne (by omega)) rfl rfl rfl rfl (by omega) (by omega) (by decide) ?_
     | refine o_indexs1 tabOk (hne2 (by omega)) rfl rfl rfl rfl (by omega) (by omega) (by decide) ?_
     | (refine z_isbin ?_; first
     | (refine z_isb .add ?_; first
     | refine o_add rfl rfl (by omega) (by omega) (by decide) ?_)
     | (refine z_isb .neq ?_; first
     | refine o_ne rfl rfl (by decide) ?_)
     | (refine z_isb .lss ?_; first
     | refine o_lt rfl rfl (by decide) ?_))
     | (refine z_isload ?_; first
     | refine o_loads tabOk hrd rfl rfl rfl (ilS_at hl) (by decide) ?_
     | refine o_loads tabOk hrd2 rfl rfl rfl (ilS_at hl) (by decide) ?_)
     | (refine z_isbi ?_; first
     | refine o_len tabOk rfl rfl (by decide) ?_)
     | refine o_move rfl (by decide) ?_
     | refine o_assign rfl (by decide) ?_))
  · obtain rfl : k = L.length := by omega
    repeat' (first
     | (refine s_is ?_; first
     | (refine s_isret ?_; first
     | exact f_r1 rfl (res_t rfl) () trivial rfl (fun w h => h))
     | (refine s_isw ?_; first
     | refine c_seq ?_
     | refine c_region ?_
     | refine c_ret ?_
     | refine c_exit ?_
     | (refine s_iscond ?_; first
     | (refine c_false rfl (by first | with_reducible rfl | with_reducible assumption | ((with_reducible refine decide_eq_false ?_); first | with_reducible assumption | omega)) ?_))))
     | (refine z_isnil ?_; first
     | refine z_list ?_)
     | (refine z_isop ?_; first
     | (refine z_isbin ?_; first
     | (refine z_isb .lss ?_; first
     | refine o_lt rfl rfl (by decide) ?_))
     | (refine z_isbi ?_; first
     | refine o_len tabOk rfl rfl (by decide) ?_)
     | refine o_move rfl (by decide) ?_
     | refine o_assign rfl (by decide) ?_))
set_option maxHeartbeats 4000000 in
theorem bawake_p : Pf Try.prog 20 [] (.bool true) := by
  intro w hw
  have e09 := eqB_pair (0, 9)
  have e12 := eqB_pair (1, 2)
  have hc0 : ∀ (j : Nat) u, (prc (0, 9))[j]? = some u → (pcs [(0, 9), (1, 2)])[(0 : Int).toNat * 2 + j]? = some u := pcs_el [(0, 9), (1, 2)] (k := 0) (by decide)
  have hc1 : ∀ (j : Nat) u, (prc (1, 2))[j]? = some u → (pcs [(0, 9), (1, 2)])[(1 : Int).toNat * 2 + j]? = some u := pcs_el [(0, 9), (1, 2)] (k := 1) (by decide)
  refine f_enter Try.func20 rfl Try.ntmps20 rfl hw ?_
  repeat' (first
   | ((refine z_isdst 3 ?_; refine o_calla Try.func10 rfl rfl rfl (bnew_c _) (by decide) fun x _ => ?_; obtain ⟨b, m⟩ := x; dsimp only))
   | ((refine z_isdst 6 ?_; refine o_calla Try.func22 rfl rfl rfl (put_1 b m _) (by decide) fun _ _ => ?_))
   | ((refine z_isdst 9 ?_; refine o_calla Try.func22 rfl rfl rfl (put_2 b m _) (by decide) fun _ _ => ?_))
   | ((refine z_isdst 11 ?_; refine o_calla Try.func17 rfl rfl rfl (uses_2 b m _) (by decide) fun x _ => ?_; obtain ⟨A, c⟩ := x; dsimp only; refine z_own2 0 rfl fun hkc hne => ?_))
   | ((refine z_isdst 31 ?_; refine z_sel rfl 3 [1, 2, 0] (by decide) ?_; refine o_calla Try.func21 rfl rfl rfl (rel_2 b m _) (by decide) fun _ _ => ?_))
   | ((refine z_isdst 36 ?_; refine o_calla Try.func19 rfl rfl rfl (len_2 b m _) (by decide) fun _ _ => ?_))
   | ((refine z_isdst 5 ?_; refine o_buildf (t := 36) (zs := [.int .i64 0, .bool false]) (vs := [.int .i64 5, .bool false]) tabOk rfl rfl (by kernel_rfl) rfl ⟨_, _, rfl, rfl, Nat.le_of_ble_eq_true rfl, rfl⟩ (by decide) ?_))
   | ((refine z_isdst 8 ?_; refine o_buildf (t := 36) (zs := [.int .i64 0, .bool false]) (vs := [.int .i64 5, .bool false]) tabOk rfl rfl (by kernel_rfl) rfl ⟨_, _, rfl, rfl, Nat.le_of_ble_eq_true rfl, rfl⟩ (by decide) ?_))
   | ((refine z_isdst 19 ?_; refine o_build (v := .agg (prc (0, 9)).toArray) rfl (fun _ => by kernel_rfl) (by decide) ?_))
   | ((refine z_isdst 26 ?_; refine o_build (v := .agg (prc (1, 2)).toArray) rfl (fun _ => by kernel_rfl) (by decide) ?_))
   | ((refine z_isdst 18 ?_; refine o_loadsw tabOk (own_rds 0 rfl) rfl rfl rfl (es := prc (0, 9)) rfl (Nat.succ_pos _) hc0 (by decide) ?_))
   | ((refine z_isdst 25 ?_; refine o_loadsw tabOk (own_rds 0 rfl) rfl rfl rfl (es := prc (1, 2)) rfl (Nat.succ_pos _) hc1 (by decide) ?_))
   | ((refine z_isdst 20 ?_; refine o_eqa cmp_pair rfl rfl ⟨rfl, rfl, trivial⟩ ⟨rfl, rfl, trivial⟩ (by decide) ?_))
   | ((refine z_isdst 27 ?_; refine o_eqa cmp_pair rfl rfl ⟨rfl, rfl, trivial⟩ ⟨rfl, rfl, trivial⟩ (by decide) ?_))
   | (refine s_is ?_; first
   | (refine s_isret ?_; first
   | exact p_r1 rfl (res_t rfl))
   | (refine s_isw ?_; first
   | refine c_seq ?_
   | refine c_region ?_
   | refine c_ret ?_))
   | (refine z_isg1 ?_; first
   | (refine z_want1 rfl rfl (by first | with_reducible rfl | with_reducible assumption | ((with_reducible refine decide_eq_true ?_); first | with_reducible rfl | with_reducible assumption | omega)) ?_))
   | (refine z_isnil ?_; first
   | refine z_list ?_)
   | (refine z_isop ?_; first
   | refine o_indexsn tabOk (hne (by decide)) rfl rfl rfl rfl (by omega) (by omega) (by decide) ?_
   | (refine z_isbin ?_; first
   | (refine z_isb .eql ?_; first
   | refine o_eq rfl rfl (by decide) ?_))
   | (refine z_ispick ?_; first
   | (refine o_pick1 rfl (by first | with_reducible rfl | with_reducible assumption | ((with_reducible refine decide_eq_true ?_); first | with_reducible rfl | with_reducible assumption | omega)) rfl (by decide) ?_))
   | (refine z_isbi ?_; first
   | refine o_len tabOk rfl rfl (by decide) ?_)
   | refine o_move rfl (by decide) ?_
   | refine o_assign rfl (by decide) ?_))
end Go.Proofs.Ytnckabgaichkkaa
