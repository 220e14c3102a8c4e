/-
Span: the law's own probe; the first numbers.
-/
import Derived.Test.YtjjhlkjnjbagfaaSp8
namespace Go.Proofs.Ytjjhlkjnjbagfaa
set_option linter.unusedVariables false
set_option linter.unusedSimpArgs false
open Eng
def aR : List Rw := [(2, 5)]
def aQ : List Rw := [(3, 4)]
def aT : List Rw := [(2, 3), (4, 5)]
theorem aR_of : ofR 2 5 = aR := rfl
theorem aQ_of : ofR 3 4 = aQ := rfl
theorem aR_ok : Okr aR := ⟨⟨by decide, by decide, trivial⟩, by decide⟩
theorem aQ_ok : Okr aQ := ⟨⟨by decide, by decide, trivial⟩, by decide⟩
theorem aT_ok : Okr aT := ⟨⟨by decide, by decide, by decide, by decide, trivial⟩, by decide⟩
theorem aT_has (j : Int) : hasB aT j = (hasB aR j && !hasB aQ j) := by
  show hasB [(2, 3), (4, 5)] j = (hasB [(2, 5)] j && !hasB [(3, 4)] j)
  simp only [has_cons, has_nil, Bool.or_false]
  by_cases a : 2 ≤ j <;> by_cases b : j < 3 <;> by_cases c : 4 ≤ j <;> by_cases d : j < 5 <;> by_cases e : 3 ≤ j <;> by_cases f : j < 4 <;> simp [a, b, c, d, e, f] <;> omega
theorem aT_len : aT.length = 2 := rfl
theorem aT_0 : rcs (at' aT 0) = [.int .i64 2, .int .i64 3] := rfl
theorem aT_1 : rcs (at' aT 1) = [.int .i64 4, .int .i64 5] := rfl
theorem of_a (fr : List Chunk) : Does Try.prog 45 [.int .i64 2, .int .i64 5] fr (fun _ : Option Addr × Nat => True) (fun x => .agg #[.slice x.1 aR.length x.2]) (fun x => own x.1 x.2 84 2 aR.length (rc aR) :: fr) := of_c 2 5 fr
theorem of_q (fr : List Chunk) : Does Try.prog 45 [.int .i64 3, .int .i64 4] fr (fun _ : Option Addr × Nat => True) (fun x => .agg #[.slice x.1 aQ.length x.2]) (fun x => own x.1 x.2 84 2 aQ.length (rc aQ) :: fr) := of_c 3 4 fr
theorem e23 : eqB [.int .i64 2, .int .i64 3] [.int .i64 2, .int .i64 3] = true := by decide +kernel
theorem e45 : eqB [.int .i64 4, .int .i64 5] [.int .i64 4, .int .i64 5] = true := by decide +kernel
attribute [local irreducible] Eng.Hold Eng.Z Eng.S Eng.cells Eng.old Eng.own rc rcs at' hasB Sep lastTo push
attribute [local irreducible] cmpR lenN ofR en mg cu ilS rg nm bs pt al rr rws layS ofS aR aQ aT eqB
set_option maxHeartbeats 4000000 in
theorem sawake_p : Pf Try.prog 28 [] (.bool true) := by
  intro w hw
  have hl := aT_len
  have h1 : eqB (rcs (at' aT 0)) [.int .i64 2, .int .i64 3] = true := by rw [aT_0]; exact e23
  have h2 : eqB (rcs (at' aT 1)) [.int .i64 4, .int .i64 5] = true := by rw [aT_1]; exact e45
  refine f_enter Try.func28 rfl Try.ntmps28 rfl hw ?_
  repeat' (first
   | ((refine z_isdst 2 ?_; refine o_calla Try.func45 rfl rfl rfl (of_a _) (by decide) fun a _ => ?_))
   | ((refine z_isdst 3 ?_; refine o_calla Try.func45 rfl rfl rfl (of_q _) (by decide) fun b _ => ?_))
   | ((refine z_isdst 4 ?_; refine o_calla Try.func24 rfl rfl rfl (without_c aR aQ aT aR_ok aQ_ok aT_ok aT_has _ _ _ _ _ (own_rds 1 rfl) (own_rds 0 rfl)) (by decide) fun x _ => ?_))
   | ((refine z_isdst 5 ?_; refine o_calla Try.func47 rfl rfl rfl (rows_c aT aT_ok _ _ _ (own_rds 0 rfl)) (by decide) fun y _ => ?_; refine z_own2 0 rfl fun hkc hne => ?_))
   | ((refine z_isdst 11 ?_; refine o_indexsn tabOk (hne (by omega)) rfl rfl rfl rfl (by omega) (by omega) (by decide) ?_))
   | ((refine z_isdst 18 ?_; refine o_indexsn tabOk (hne (by omega)) rfl rfl rfl rfl (by omega) (by omega) (by decide) ?_))
   | ((refine z_isdst 12 ?_; refine o_loadsw tabOk (own_rds 0 rfl) rfl rfl rfl (es := rcs (at' aT 0)) (rcs_len _) (by rw [rcs_len]; decide) (fun j u hu => rc_el aT (k := 0) (by omega) j u hu) (by decide) ?_))
   | ((refine z_isdst 19 ?_; refine o_loadsw tabOk (own_rds 0 rfl) rfl rfl rfl (es := rcs (at' aT 1)) (rcs_len _) (by rw [rcs_len]; decide) (fun j u hu => rc_el aT (k := 1) (by omega) j u hu) (by decide) ?_))
   | ((refine z_isdst 13 ?_; refine o_build (v := .agg [.int .i64 2, .int .i64 3].toArray) rfl (fun _ => by kernel_rfl) (by decide) ?_))
   | ((refine z_isdst 20 ?_; refine o_build (v := .agg [.int .i64 4, .int .i64 5].toArray) rfl (fun _ => by kernel_rfl) (by decide) ?_))
   | ((refine z_isdst 14 ?_; refine o_eqa cmp_pair rfl rfl (rcs_typed _) ⟨rfl, rfl, trivial⟩ (by decide) ?_))
   | ((refine z_isdst 21 ?_; refine o_eqa cmp_pair rfl rfl (rcs_typed _) ⟨rfl, rfl, trivial⟩ (by decide) ?_))
   | (refine s_is ?_; first
   | (refine s_isret ?_; first
   | (exact p_r1 rfl (res_t (by rw [h2]; rfl))))
   | (refine s_isw ?_; first
   | refine c_seq ?_
   | refine c_region ?_
   | refine c_ret ?_))
   | (refine z_isg1 ?_; first
   | (refine z_want1 rfl rfl (by first | with_reducible rfl | with_reducible assumption | ((with_reducible refine decide_eq_true ?_); first | with_reducible rfl | with_reducible assumption | omega)) ?_))
   | (refine z_isnil ?_; first
   | refine z_list ?_)
   | (refine z_isop ?_; first
   | (refine z_isbin ?_; first
   | (refine z_isb .eql ?_; first
   | refine o_eq rfl rfl (by decide) ?_))
   | (refine z_ispick ?_; first
   | (refine o_pick1 rfl (by first | with_reducible rfl | with_reducible assumption | ((with_reducible refine decide_eq_true ?_); first | with_reducible rfl | with_reducible assumption | omega)) rfl (by decide) ?_))
   | (refine z_isbi ?_; first
   | refine o_len tabOk rfl rfl (by decide) ?_)
   | refine o_move rfl (by decide) ?_
   | refine o_assign rfl (by decide) ?_))
end Go.Proofs.Ytjjhlkjnjbagfaa
