/-
Tables of names: a name added and dropped by the document; a name dropped.
-/
import Derived.Test.YtjjhlkjnjbagfaaNa4
namespace Go.Proofs.Ytjjhlkjnjbagfaa
set_option linter.unusedVariables false
set_option linter.unusedSimpArgs false
open Eng
attribute [local irreducible] Eng.Hold Eng.Z Eng.S Eng.cells Eng.old Eng.own il fi gt addL drL nmN
attribute [local irreducible] ix fd gv
theorem il_putn (L : List Int) (i : Nat) (x : Int) : (il L).set ((i : Int)).toNat (Value.int .i64 x) = il (L.set i x) := il_put L _ i rfl x
theorem radd_no (L : List Int) (hL : Nm L) (A : Option Addr) (c : Nat) (n : Int) (fr : List Chunk) (hrd : Rds fr A (il L)) (hx : L.length ≤ 512) (ha : addL L n = none) : Does Try.prog 13 [.slice A L.length c, .int .i64 n] fr (fun _ : Unit => True) (fun _ => .tuple #[.slice A L.length c, .int .i64 (-1)]) (fun _ => fr) := by
  intro w hw
  refine f_enter Try.func13 rfl Try.ntmps13 rfl hw ?_
  by_cases hb : n < 0 ∨ 1023 < n ∨ (fi L n).isSome = true
  · by_cases h0 : n < 0
    · skip
      repeat' (first
       | (refine s_is ?_; first
       | (refine s_isret ?_; first
       | exact f_r2 rfl (res_t rfl) (res_t rfl) () trivial rfl (fun w h => h))
       | (refine s_isw ?_; first
       | refine c_seq ?_
       | refine c_region ?_
       | refine c_ret ?_
       | (refine s_iscond ?_; first
       | (refine c_true rfl (by first | with_reducible rfl | with_reducible assumption | ((with_reducible refine decide_eq_true ?_); first | with_reducible rfl | with_reducible assumption | omega)) ?_)))
       | refine x_then_ret ?_)
       | (refine z_isg0 ?_; first
       | (refine z_skip0 (by decide) rfl rfl (by first | with_reducible rfl | with_reducible assumption | ((with_reducible refine decide_eq_true ?_); first | with_reducible rfl | with_reducible assumption | omega)) ?_))
       | (refine z_isnil ?_; first
       | refine z_list ?_)
       | (refine z_isop ?_; first
       | (refine z_isbin ?_; first
       | (refine z_isb .lss ?_; first
       | refine o_lt rfl rfl (by decide) ?_))
       | (refine z_ispick ?_; first
       | (refine o_pick1 rfl (by first | with_reducible rfl | with_reducible assumption | ((with_reducible refine decide_eq_true ?_); first | with_reducible rfl | with_reducible assumption | omega)) rfl (by decide) ?_))
       | refine o_move rfl (by decide) ?_
       | refine o_assign rfl (by decide) ?_))
    · by_cases h2 : 1023 < n
      · skip
        repeat' (first
         | (refine s_is ?_; first
         | (refine s_isret ?_; first
         | exact f_r2 rfl (res_t rfl) (res_t rfl) () trivial rfl (fun w h => h))
         | (refine s_isw ?_; first
         | refine c_seq ?_
         | refine c_region ?_
         | refine c_ret ?_
         | (refine s_iscond ?_; first
         | (refine c_true rfl (by first | with_reducible rfl | with_reducible assumption | ((with_reducible refine decide_eq_true ?_); first | with_reducible rfl | with_reducible assumption | omega)) ?_)))
         | refine x_then_ret ?_)
         | (refine z_isg0 ?_; first
         | (refine z_want0 rfl rfl (by first | with_reducible rfl | with_reducible assumption | ((with_reducible refine decide_eq_false ?_); first | with_reducible assumption | omega)) ?_)
         | (refine z_skip0 (by decide) rfl rfl (by first | with_reducible rfl | with_reducible assumption | ((with_reducible refine decide_eq_true ?_); first | with_reducible rfl | with_reducible assumption | omega)) ?_))
         | (refine z_isnil ?_; first
         | refine z_list ?_)
         | (refine z_isop ?_; first
         | (refine z_isbin ?_; first
         | (refine z_isb .lss ?_; first
         | refine o_lt rfl rfl (by decide) ?_)
         | (refine z_isb .gtr ?_; first
         | refine o_gt rfl rfl (by decide) ?_))
         | (refine z_ispick ?_; first
         | (refine o_pick1 rfl (by first | with_reducible rfl | with_reducible assumption | ((with_reducible refine decide_eq_true ?_); first | with_reducible rfl | with_reducible assumption | omega)) rfl (by decide) ?_)
         | (refine o_pick0 rfl (by first | with_reducible rfl | with_reducible assumption | ((with_reducible refine decide_eq_false ?_); first | with_reducible assumption | omega)) rfl (by decide) ?_))
         | refine o_move rfl (by decide) ?_
         | refine o_assign rfl (by decide) ?_))
      · have h1 : 0 ≤ fd L n := by
          rcases hb with hb | hb | hb
          · exact absurd hb h0
          · exact absurd hb h2
          · exact some_fd h0 hb
        repeat' (first
         | (refine s_is ?_; first
         | (refine s_isret ?_; first
         | exact f_r2 rfl (res_t rfl) (res_t rfl) () trivial rfl (fun w h => h))
         | (refine s_isw ?_; first
         | refine c_seq ?_
         | refine c_region ?_
         | refine c_ret ?_
         | (refine s_iscond ?_; first
         | (refine c_true rfl (by first | with_reducible rfl | with_reducible assumption | ((with_reducible refine decide_eq_true ?_); first | with_reducible rfl | with_reducible assumption | omega)) ?_)))
         | refine x_then_ret ?_)
         | (refine z_isg0 ?_; first
         | (refine z_want0 rfl rfl (by first | with_reducible rfl | with_reducible assumption | ((with_reducible refine decide_eq_false ?_); first | with_reducible assumption | omega)) ?_))
         | (refine z_isnil ?_; first
         | refine z_list ?_)
         | (refine z_isop ?_; first
         | (refine z_isbin ?_; first
         | (refine z_isb .lss ?_; first
         | refine o_lt rfl rfl (by decide) ?_)
         | (refine z_isb .gtr ?_; first
         | refine o_gt rfl rfl (by decide) ?_)
         | (refine z_isb .geq ?_; first
         | refine o_ge rfl rfl (by decide) ?_))
         | (refine z_iscall ?_; first
         | ((refine z_iscallf 17 ?_; refine o_callr rfl Try.func17 rfl rfl rfl (rfind_c L _ _ _ _ hrd (by omega)) (by decide) ?_)))
         | (refine z_ispick ?_; first
         | (refine o_pick0 rfl (by first | with_reducible rfl | with_reducible assumption | ((with_reducible refine decide_eq_false ?_); first | with_reducible assumption | omega)) rfl (by decide) ?_))
         | refine o_move rfl (by decide) ?_
         | refine o_assign rfl (by decide) ?_))
  · have hf := ok_fd hb
    cases hi : fi L (-1) with
    | some i => rw [add_hole hb hi] at ha; cases ha
    | none =>
      by_cases hl : L.length = 512
      · have hno := fi_no hi
        repeat' (first
         | (refine s_is ?_; first
         | (refine s_isw ?_; first
         | (refine s_isloop ?_; first
         | ((refine c_loop (X := Nat) (fun k => k ≤ L.length) (fun k => [(0, .slice A L.length c), (1, .int .i64 n), (6, .slice A' L.length c'), (7, .int .i64 k)]) (fun _ => own A' c' 3 1 L.length (il L) :: fr) (fun k => L.length - k) 0 (Nat.zero_le _) ⟨rfl, rfl, rfl, rfl, trivial⟩ (fun w h => h) (fun k hk => ?_); refine c_own2 0 rfl fun hkc hne => ?_; refine hold ?_)))
         | refine c_seq ?_
         | refine c_block ?_
         | refine c_region ?_
         | refine c_skip ?_
         | (refine s_iscond ?_; first
         | (refine c_false rfl (by first | with_reducible rfl | with_reducible assumption | ((with_reducible refine decide_eq_false ?_); first | with_reducible assumption | omega)) ?_))))
         | (refine z_isg0 ?_; first
         | (refine z_want0 rfl rfl (by first | with_reducible rfl | with_reducible assumption | ((with_reducible refine decide_eq_false ?_); first | with_reducible assumption | omega)) ?_))
         | (refine z_isnil ?_; first
         | refine z_list ?_)
         | (refine z_isop ?_; first
         | (refine z_isbin ?_; first
         | (refine z_isb .lss ?_; first
         | refine o_lt rfl rfl (by decide) ?_)
         | (refine z_isb .gtr ?_; first
         | refine o_gt rfl rfl (by decide) ?_)
         | (refine z_isb .geq ?_; first
         | refine o_ge rfl rfl (by decide) ?_))
         | (refine z_iscall ?_; first
         | ((refine z_iscallf 17 ?_; refine o_callr rfl Try.func17 rfl rfl rfl (rfind_c L _ _ _ _ hrd (by omega)) (by decide) ?_)))
         | (refine z_ispick ?_; first
         | (refine o_pick0 rfl (by first | with_reducible rfl | with_reducible assumption | ((with_reducible refine decide_eq_false ?_); first | with_reducible assumption | omega)) rfl (by decide) ?_))
         | (refine z_isbi ?_; first
         | (refine o_append0 rfl tabOk zeroOk rfl rfl rfl rfl rfl rfl (by first | exact Rds.cons _ hrd | exact hrd | exact own_rds 0 rfl | exact own_rds 1 rfl | exact own_rds 2 rfl | assumption) (by first | exact (il_len _).trans (Nat.mul_one _).symm | rfl | (simp; done) | rfl | (simp; done)) (by first | exact il_one _ | rfl | rfl | (simp; done)) (by omega) (by omega) (by decide) fun A' c' => ?_))
         | refine o_move rfl (by decide) ?_
         | refine o_assign rfl (by decide) ?_))
        refine Hold.go ?_
        by_cases hkl : k < L.length
        · have e3 : ((k : Int)).toNat = k := Int.toNat_natCast k
          have h' : ¬ (L.getD ((k : Int)).toNat 0 < 0) := by rw [e3, hole_neg hL hkl]; exact hno k hkl
          repeat' (first
           | (refine s_is ?_; first
           | (refine s_isagain ?_; first
           | exact c_again (k + 1) (by omega) (by omega) ⟨rfl, rfl, rfl, rfl, trivial⟩ (fun w h => h))
           | (refine s_isw ?_; first
           | refine c_seq ?_
           | refine c_block ?_
           | refine c_region ?_
           | refine c_skip ?_
           | (refine s_iscond ?_; first
           | (refine c_true rfl (by first | with_reducible rfl | with_reducible assumption | ((with_reducible refine decide_eq_true ?_); first | with_reducible rfl | with_reducible assumption | omega)) ?_)
           | (refine c_false rfl (by first | with_reducible rfl | with_reducible assumption | ((with_reducible refine decide_eq_false ?_); first | with_reducible assumption | omega)) ?_))))
           | (refine z_isnil ?_; first
           | refine z_list ?_)
           | (refine z_isop ?_; first
           | (refine z_isbin ?_; first
           | (refine z_isb .add ?_; first
           | refine o_add rfl rfl (by omega) (by omega) (by decide) ?_)
           | (refine z_isb .lss ?_; first
           | refine o_lt rfl rfl (by decide) ?_))
           | (refine z_isload ?_; first
           | (refine z_ld1 tabOk rfl rfl ?_; first
           | refine o_loads tabOk (by first | exact Rds.cons _ hrd | exact hrd | exact own_rds 0 rfl | exact own_rds 1 rfl | exact own_rds 2 rfl | assumption) rfl rfl rfl (by first | exact il_at _ (by omega) | rfl | rfl) (by decide) ?_))
           | (refine z_isix ?_; first
           | refine o_indexs1 tabOk (by first | exact hne (by omega) | assumption) rfl rfl rfl rfl (by omega) (by omega) (by decide) ?_)
           | (refine z_isbi ?_; first
           | refine o_len tabOk rfl rfl (by decide) ?_)
           | refine o_move rfl (by decide) ?_
           | refine o_assign rfl (by decide) ?_))
        · obtain rfl : k = L.length := by omega
          repeat' (first
           | (refine s_is ?_; first
           | (refine s_isret ?_; first
           | exact f_r2 rfl (res_t rfl) (res_t rfl) () trivial rfl (fun w h => ((h.sel 1 [0] (by decide)).mask [false])))
           | (refine s_isw ?_; first
           | refine c_seq ?_
           | refine c_region ?_
           | refine c_ret ?_
           | refine c_exit ?_
           | (refine s_iscond ?_; first
           | (refine c_true rfl (by first | with_reducible rfl | with_reducible assumption | ((with_reducible refine decide_eq_true ?_); first | with_reducible rfl | with_reducible assumption | omega)) ?_)
           | (refine c_false rfl (by first | with_reducible rfl | with_reducible assumption | ((with_reducible refine decide_eq_false ?_); first | with_reducible assumption | omega)) ?_)))
           | refine x_then_ret ?_)
           | (refine z_isnil ?_; first
           | refine z_list ?_)
           | (refine z_isop ?_; first
           | (refine z_isbin ?_; first
           | (refine z_isb .lss ?_; first
           | refine o_lt rfl rfl (by decide) ?_)
           | (refine z_isb .geq ?_; first
           | refine o_ge rfl rfl (by decide) ?_))
           | (refine z_isbi ?_; first
           | refine o_len tabOk rfl rfl (by decide) ?_)
           | refine o_move rfl (by decide) ?_
           | refine o_assign rfl (by decide) ?_))
      · rw [add_end hb hi hl] at ha; cases ha
theorem radd_yes (L L' : List Int) (k0 : Nat) (hL : Nm L) (A : Option Addr) (c : Nat) (n : Int) (fr : List Chunk) (hrd : Rds fr A (il L)) (hx : L.length ≤ 512) (ha : addL L n = some (L', k0)) : Does Try.prog 13 [.slice A L.length c, .int .i64 n] fr (fun _ : Option Addr × Nat => True) (fun x => .tuple #[.slice x.1 L'.length x.2, .int .i64 k0]) (fun x => own x.1 x.2 3 1 L'.length (il L') :: fr) := by
  intro w hw
  refine f_enter Try.func13 rfl Try.ntmps13 rfl hw ?_
  by_cases hb : n < 0 ∨ 1023 < n ∨ (fi L n).isSome = true
  · rw [add_bad hb] at ha; cases ha
  · have hf := ok_fd hb
    cases hi : fi L (-1) with
    | some i =>
      rw [add_hole hb hi] at ha
      cases ha
      obtain ⟨hil, hat, hno⟩ := fi_inv hi
      repeat' (first
       | (refine s_is ?_; first
       | (refine s_isw ?_; first
       | (refine s_isloop ?_; first
       | ((refine c_loop (X := Nat) (fun k => k ≤ k0) (fun k => [(0, .slice A L.length c), (1, .int .i64 n), (6, .slice A' L.length c'), (7, .int .i64 k)]) (fun _ => own A' c' 3 1 L.length (il L) :: fr) (fun k => L.length - k) 0 (Nat.zero_le _) ⟨rfl, rfl, rfl, rfl, trivial⟩ (fun w h => h) (fun k hk => ?_); refine c_own2 0 rfl fun hkc hne => ?_; refine hold ?_)))
       | refine c_seq ?_
       | refine c_block ?_
       | refine c_region ?_
       | refine c_skip ?_
       | (refine s_iscond ?_; first
       | (refine c_false rfl (by first | with_reducible rfl | with_reducible assumption | ((with_reducible refine decide_eq_false ?_); first | with_reducible assumption | omega)) ?_))))
       | (refine z_isg0 ?_; first
       | (refine z_want0 rfl rfl (by first | with_reducible rfl | with_reducible assumption | ((with_reducible refine decide_eq_false ?_); first | with_reducible assumption | omega)) ?_))
       | (refine z_isnil ?_; first
       | refine z_list ?_)
       | (refine z_isop ?_; first
       | (refine z_isbin ?_; first
       | (refine z_isb .lss ?_; first
       | refine o_lt rfl rfl (by decide) ?_)
       | (refine z_isb .gtr ?_; first
       | refine o_gt rfl rfl (by decide) ?_)
       | (refine z_isb .geq ?_; first
       | refine o_ge rfl rfl (by decide) ?_))
       | (refine z_iscall ?_; first
       | ((refine z_iscallf 17 ?_; refine o_callr rfl Try.func17 rfl rfl rfl (rfind_c L _ _ _ _ hrd (by omega)) (by decide) ?_)))
       | (refine z_ispick ?_; first
       | (refine o_pick0 rfl (by first | with_reducible rfl | with_reducible assumption | ((with_reducible refine decide_eq_false ?_); first | with_reducible assumption | omega)) rfl (by decide) ?_))
       | (refine z_isbi ?_; first
       | (refine o_append0 rfl tabOk zeroOk rfl rfl rfl rfl rfl rfl (by first | exact Rds.cons _ hrd | exact hrd | exact own_rds 0 rfl | exact own_rds 1 rfl | exact own_rds 2 rfl | assumption) (by first | exact (il_len _).trans (Nat.mul_one _).symm | rfl | (simp; done) | rfl | (simp; done)) (by first | exact il_one _ | rfl | rfl | (simp; done)) (by omega) (by omega) (by decide) fun A' c' => ?_))
       | refine o_move rfl (by decide) ?_
       | refine o_assign rfl (by decide) ?_))
      refine Hold.go ?_
      have e3 : ((k : Int)).toNat = k := Int.toNat_natCast k
      have hkl : k < L.length := by omega
      by_cases hke : k = k0
      · subst hke
        have h' : L.getD ((k : Int)).toNat 0 < 0 := by rw [e3, hat]; decide
        repeat' (first
         | (refine s_is ?_; first
         | (refine s_isret ?_; first
         | (exact f_r2 rfl (res_t rfl) (res_t rfl) (A', c') trivial (by rw [List.length_set]) (fun w h => by rw [← il_putn, List.length_set]; exact h)))
         | (refine s_isw ?_; first
         | refine c_seq ?_
         | refine c_block ?_
         | refine c_region ?_
         | refine c_skip ?_
         | refine c_ret ?_
         | (refine s_iscond ?_; first
         | (refine c_true rfl (by first | with_reducible rfl | with_reducible assumption | ((with_reducible refine decide_eq_true ?_); first | with_reducible rfl | with_reducible assumption | omega)) ?_)))
         | refine x_then_ret ?_
         | refine x_block_ret _ ?_)
         | (refine z_isnil ?_; first
         | refine z_list ?_)
         | (refine z_isop ?_; first
         | (refine z_isbin ?_; first
         | (refine z_isb .lss ?_; first
         | refine o_lt rfl rfl (by decide) ?_))
         | (refine z_isload ?_; first
         | (refine z_ld1 tabOk rfl rfl ?_; first
         | refine o_loads tabOk (by first | exact Rds.cons _ hrd | exact hrd | exact own_rds 0 rfl | exact own_rds 1 rfl | exact own_rds 2 rfl | assumption) rfl rfl rfl (by first | exact il_at _ (by omega) | rfl | rfl) (by decide) ?_))
         | (refine z_isstore ?_; first
         | (refine o_stores rfl 0 tabOk rfl rfl rfl rfl rfl rfl (by rw [il_len]; omega) ?_))
         | (refine z_isix ?_; first
         | refine o_indexs1 tabOk (by first | exact hne (by omega) | assumption) rfl rfl rfl rfl (by omega) (by omega) (by decide) ?_)
         | (refine z_isbi ?_; first
         | refine o_len tabOk rfl rfl (by decide) ?_)
         | refine o_move rfl (by decide) ?_
         | refine o_assign rfl (by decide) ?_))
      · have h' : ¬ (L.getD ((k : Int)).toNat 0 < 0) := by rw [e3, hole_neg hL hkl]; exact hno k (by omega)
        repeat' (first
         | (refine s_is ?_; first
         | (refine s_isagain ?_; first
         | exact c_again (k + 1) (by omega) (by omega) ⟨rfl, rfl, rfl, rfl, trivial⟩ (fun w h => h))
         | (refine s_isw ?_; first
         | refine c_seq ?_
         | refine c_block ?_
         | refine c_region ?_
         | refine c_skip ?_
         | (refine s_iscond ?_; first
         | (refine c_true rfl (by first | with_reducible rfl | with_reducible assumption | ((with_reducible refine decide_eq_true ?_); first | with_reducible rfl | with_reducible assumption | omega)) ?_)
         | (refine c_false rfl (by first | with_reducible rfl | with_reducible assumption | ((with_reducible refine decide_eq_false ?_); first | with_reducible assumption | omega)) ?_))))
         | (refine z_isnil ?_; first
         | refine z_list ?_)
         | (refine z_isop ?_; first
         | (refine z_isbin ?_; first
         | (refine z_isb .add ?_; first
         | refine o_add rfl rfl (by omega) (by omega) (by decide) ?_)
         | (refine z_isb .lss ?_; first
         | refine o_lt rfl rfl (by decide) ?_))
         | (refine z_isload ?_; first
         | (refine z_ld1 tabOk rfl rfl ?_; first
         | refine o_loads tabOk (by first | exact Rds.cons _ hrd | exact hrd | exact own_rds 0 rfl | exact own_rds 1 rfl | exact own_rds 2 rfl | assumption) rfl rfl rfl (by first | exact il_at _ (by omega) | rfl | rfl) (by decide) ?_))
         | (refine z_isix ?_; first
         | refine o_indexs1 tabOk (by first | exact hne (by omega) | assumption) rfl rfl rfl rfl (by omega) (by omega) (by decide) ?_)
         | (refine z_isbi ?_; first
         | refine o_len tabOk rfl rfl (by decide) ?_)
         | refine o_move rfl (by decide) ?_
         | refine o_assign rfl (by decide) ?_))
    | none =>
      by_cases hl : L.length = 512
      · rw [add_full hb hi hl] at ha; cases ha
      · rw [add_end hb hi hl] at ha
        cases ha
        have hno := fi_no hi
        repeat' (first
         | (refine s_is ?_; first
         | (refine s_isw ?_; first
         | (refine s_isloop ?_; first
         | ((refine c_loop (X := Nat) (fun k => k ≤ L.length) (fun k => [(0, .slice A L.length c), (1, .int .i64 n), (6, .slice A' L.length c'), (7, .int .i64 k)]) (fun _ => own A' c' 3 1 L.length (il L) :: fr) (fun k => L.length - k) 0 (Nat.zero_le _) ⟨rfl, rfl, rfl, rfl, trivial⟩ (fun w h => h) (fun k hk => ?_); refine c_own2 0 rfl fun hkc hne => ?_; refine hold ?_)))
         | refine c_seq ?_
         | refine c_block ?_
         | refine c_region ?_
         | refine c_skip ?_
         | (refine s_iscond ?_; first
         | (refine c_false rfl (by first | with_reducible rfl | with_reducible assumption | ((with_reducible refine decide_eq_false ?_); first | with_reducible assumption | omega)) ?_))))
         | (refine z_isg0 ?_; first
         | (refine z_want0 rfl rfl (by first | with_reducible rfl | with_reducible assumption | ((with_reducible refine decide_eq_false ?_); first | with_reducible assumption | omega)) ?_))
         | (refine z_isnil ?_; first
         | refine z_list ?_)
         | (refine z_isop ?_; first
         | (refine z_isbin ?_; first
         | (refine z_isb .lss ?_; first
         | refine o_lt rfl rfl (by decide) ?_)
         | (refine z_isb .gtr ?_; first
         | refine o_gt rfl rfl (by decide) ?_)
         | (refine z_isb .geq ?_; first
         | refine o_ge rfl rfl (by decide) ?_))
         | (refine z_iscall ?_; first
         | ((refine z_iscallf 17 ?_; refine o_callr rfl Try.func17 rfl rfl rfl (rfind_c L _ _ _ _ hrd (by omega)) (by decide) ?_)))
         | (refine z_ispick ?_; first
         | (refine o_pick0 rfl (by first | with_reducible rfl | with_reducible assumption | ((with_reducible refine decide_eq_false ?_); first | with_reducible assumption | omega)) rfl (by decide) ?_))
         | (refine z_isbi ?_; first
         | (refine o_append0 rfl tabOk zeroOk rfl rfl rfl rfl rfl rfl (by first | exact Rds.cons _ hrd | exact hrd | exact own_rds 0 rfl | exact own_rds 1 rfl | exact own_rds 2 rfl | assumption) (by first | exact (il_len _).trans (Nat.mul_one _).symm | rfl | (simp; done) | rfl | (simp; done)) (by first | exact il_one _ | rfl | rfl | (simp; done)) (by omega) (by omega) (by decide) fun A' c' => ?_))
         | refine o_move rfl (by decide) ?_
         | refine o_assign rfl (by decide) ?_))
        refine Hold.go ?_
        by_cases hkl : k < L.length
        · have e3 : ((k : Int)).toNat = k := Int.toNat_natCast k
          have h' : ¬ (L.getD ((k : Int)).toNat 0 < 0) := by rw [e3, hole_neg hL hkl]; exact hno k hkl
          repeat' (first
           | (refine s_is ?_; first
           | (refine s_isagain ?_; first
           | exact c_again (k + 1) (by omega) (by omega) ⟨rfl, rfl, rfl, rfl, trivial⟩ (fun w h => h))
           | (refine s_isw ?_; first
           | refine c_seq ?_
           | refine c_block ?_
           | refine c_region ?_
           | refine c_skip ?_
           | (refine s_iscond ?_; first
           | (refine c_true rfl (by first | with_reducible rfl | with_reducible assumption | ((with_reducible refine decide_eq_true ?_); first | with_reducible rfl | with_reducible assumption | omega)) ?_)
           | (refine c_false rfl (by first | with_reducible rfl | with_reducible assumption | ((with_reducible refine decide_eq_false ?_); first | with_reducible assumption | omega)) ?_))))
           | (refine z_isnil ?_; first
           | refine z_list ?_)
           | (refine z_isop ?_; first
           | (refine z_isbin ?_; first
           | (refine z_isb .add ?_; first
           | refine o_add rfl rfl (by omega) (by omega) (by decide) ?_)
           | (refine z_isb .lss ?_; first
           | refine o_lt rfl rfl (by decide) ?_))
           | (refine z_isload ?_; first
           | (refine z_ld1 tabOk rfl rfl ?_; first
           | refine o_loads tabOk (by first | exact Rds.cons _ hrd | exact hrd | exact own_rds 0 rfl | exact own_rds 1 rfl | exact own_rds 2 rfl | assumption) rfl rfl rfl (by first | exact il_at _ (by omega) | rfl | rfl) (by decide) ?_))
           | (refine z_isix ?_; first
           | refine o_indexs1 tabOk (by first | exact hne (by omega) | assumption) rfl rfl rfl rfl (by omega) (by omega) (by decide) ?_)
           | (refine z_isbi ?_; first
           | refine o_len tabOk rfl rfl (by decide) ?_)
           | refine o_move rfl (by decide) ?_
           | refine o_assign rfl (by decide) ?_))
        · obtain rfl : k = L.length := by omega
          repeat' (first
           | (refine z_front rfl 1 rfl ?_; refine o_append rfl tabOk zeroOk rfl rfl rfl rfl rfl rfl (own_rds 1 rfl) rfl rfl (by omega) (by omega) (by decide) fun A'' c'' => ?_)
           | (refine s_is ?_; first
           | (refine s_isret ?_; first
           | (exact f_r2 rfl (res_t rfl) (res_t rfl) (A'', c'') trivial (by rw [List.length_append]; rfl) (fun w h => by rw [il_add, List.length_append]; exact ((h.sel 2 [0, 1] (by decide)).mask [true, false]))))
           | (refine s_isw ?_; first
           | refine c_seq ?_
           | refine c_region ?_
           | refine c_skip ?_
           | refine c_ret ?_
           | refine c_exit ?_
           | (refine s_iscond ?_; first
           | (refine c_false rfl (by first | with_reducible rfl | with_reducible assumption | ((with_reducible refine decide_eq_false ?_); first | with_reducible assumption | omega)) ?_))))
           | (refine z_isnil ?_; first
           | refine z_list ?_)
           | (refine z_isop ?_; first
           | (refine z_isbin ?_; first
           | (refine z_isb .lss ?_; first
           | refine o_lt rfl rfl (by decide) ?_)
           | (refine z_isb .geq ?_; first
           | refine o_ge rfl rfl (by decide) ?_))
           | (refine z_ismakes ?_; first
           | refine o_make1 rfl tabOk zeroOk rfl rfl rfl rfl rfl (by decide) fun g => ?_)
           | (refine z_isbi ?_; first
           | refine o_len tabOk rfl rfl (by decide) ?_)
           | refine o_move rfl (by decide) ?_
           | refine o_assign rfl (by decide) ?_))
theorem rdrop_no (L : List Int) (A : Option Addr) (c : Nat) (i : Int) (fr : List Chunk) (hrd : Rds fr A (il L)) (hx : L.length ≤ 512) (ha : drL L i = none) : Does Try.prog 15 [.slice A L.length c, .int .i64 i] fr (fun _ : Unit => True) (fun _ => .tuple #[.slice A L.length c, .bool false]) (fun _ => fr) := by
  intro w hw
  refine f_enter Try.func15 rfl Try.ntmps15 rfl hw ?_
  by_cases h0 : 0 ≤ gt L i
  · rw [(dr_yes h0).1] at ha; cases ha
  · skip
    repeat' (first
     | (refine s_is ?_; first
     | (refine s_isret ?_; first
     | exact f_r2 rfl (res_t rfl) (res_t rfl) () trivial rfl (fun w h => h))
     | (refine s_isw ?_; first
     | refine c_seq ?_
     | refine c_region ?_
     | refine c_ret ?_
     | (refine s_iscond ?_; first
     | (refine c_true rfl (by first | with_reducible rfl | with_reducible assumption | ((with_reducible refine decide_eq_true ?_); first | with_reducible rfl | with_reducible assumption | omega)) ?_)))
     | refine x_then_ret ?_)
     | (refine z_isnil ?_; first
     | refine z_list ?_)
     | (refine z_isop ?_; first
     | (refine z_isbin ?_; first
     | (refine z_isb .lss ?_; first
     | refine o_lt rfl rfl (by decide) ?_))
     | (refine z_iscall ?_; first
     | ((refine z_iscallf 34 ?_; refine o_callr rfl Try.func34 rfl rfl rfl (rget_c L _ _ _ _ hrd (by omega)) (by decide) ?_)))
     | refine o_move rfl (by decide) ?_
     | refine o_assign rfl (by decide) ?_))
theorem rdrop_yes (L L' : List Int) (A : Option Addr) (c : Nat) (i : Int) (fr : List Chunk) (hrd : Rds fr A (il L)) (hx : L.length ≤ 512) (ha : drL L i = some L') : Does Try.prog 15 [.slice A L.length c, .int .i64 i] fr (fun _ : Option Addr × Nat => True) (fun x => .tuple #[.slice x.1 L'.length x.2, .bool true]) (fun x => own x.1 x.2 3 1 L'.length (il L') :: fr) := by
  intro w hw
  refine f_enter Try.func15 rfl Try.ntmps15 rfl hw ?_
  by_cases h0 : 0 ≤ gt L i
  · obtain ⟨hd, hi0, hi1, _⟩ := dr_yes h0
    rw [hd] at ha; cases ha
    repeat' (first
     | ((refine z_isbi ?_; refine o_append0 rfl tabOk zeroOk rfl rfl rfl rfl rfl rfl hrd ((il_len _).trans (Nat.mul_one _).symm) (il_one _) (by omega) (by omega) (by decide) fun A' c' => ?_; refine z_own2 0 rfl fun hkc hne => ?_))
     | (refine s_is ?_; first
     | (refine s_isret ?_; first
     | (exact f_r2 rfl (res_t rfl) (res_t rfl) (A', c') trivial (by rw [List.length_set]) (fun w h => by rw [← il_set, List.length_set]; exact h)))
     | (refine s_isw ?_; first
     | refine c_seq ?_
     | refine c_region ?_
     | refine c_skip ?_
     | refine c_ret ?_
     | (refine s_iscond ?_; first
     | (refine c_false rfl (by first | with_reducible rfl | with_reducible assumption | ((with_reducible refine decide_eq_false ?_); first | with_reducible assumption | omega)) ?_))))
     | (refine z_isnil ?_; first
     | refine z_list ?_)
     | (refine z_isop ?_; first
     | (refine z_isbin ?_; first
     | (refine z_isb .lss ?_; first
     | refine o_lt rfl rfl (by decide) ?_))
     | (refine z_isstore ?_; first
     | (refine o_stores rfl 0 tabOk rfl rfl rfl rfl rfl rfl (by rw [il_len]; omega) ?_))
     | (refine z_iscall ?_; first
     | ((refine z_iscallf 34 ?_; refine o_callr rfl Try.func34 rfl rfl rfl (rget_c L _ _ _ _ hrd (by omega)) (by decide) ?_)))
     | (refine z_isix ?_; first
     | refine o_indexs1 tabOk (by first | exact hne (by omega) | assumption) rfl rfl rfl rfl (by omega) (by omega) (by decide) ?_)
     | refine o_move rfl (by decide) ?_
     | refine o_assign rfl (by decide) ?_))
  · rw [dr_no (by omega)] at ha; cases ha
theorem drop_no (L : List Int) (hL : Nm L) (A : Option Addr) (c : Nat) (i : Int) (fr : List Chunk) (hrd : Rds fr A (il L)) (hx : L.length ≤ 512) (ha : drL L i = none) : Does Try.prog 14 [.agg #[.slice A L.length c], .int .i64 i] fr (fun _ : Unit => True) (fun _ => .tuple #[.agg #[.slice A L.length c], .bool false]) (fun _ => fr) := by
  intro w hw
  refine f_enter Try.func14 rfl Try.ntmps14 rfl hw ?_
  by_cases h0 : 0 ≤ gt L i
  · rw [(dr_yes h0).1] at ha; cases ha
  · skip
    repeat' (first
     | (refine s_is ?_; first
     | (refine s_isret ?_; first
     | exact f_r2 rfl (res_c tabOk rfl rfl rfl 0 rfl rfl) (res_t rfl) () trivial rfl (fun w h => ((h.sel 2 [0, 1] (by decide)).mask [false, false])))
     | (refine s_isw ?_; first
     | refine c_seq ?_
     | refine c_region ?_
     | refine c_ret ?_
     | (refine s_iscond ?_; first
     | (refine c_true rfl (by first | (simp only [Bool.not_eq_true', decide_eq_false_iff_not]; omega) | (with_reducible assumption) | (rw [decide_eq_false] <;> (first | omega | with_reducible rfl)) | (rw [decide_eq_true] <;> (first | omega | with_reducible rfl)) | (simp; done) | (simp; omega)) ?_)))
     | refine x_then_ret ?_)
     | (refine z_isnil ?_; first
     | refine z_list ?_)
     | (refine z_isop ?_; first
     | refine o_alloca (e := 27) (vs := [.slice none 0 0]) rfl (by kernel_rfl) (by decide) fun g' => ?_
     | refine o_boxa (vs := [.slice A L.length c]) rfl rfl (by decide) fun g => ?_
     | (refine z_isload ?_; first
     | (refine z_ldw tabOk rfl rfl ?_; first
     | (refine o_loadwm tabOk rfl rfl rfl (by repeat' (first | exact List.mem_cons_self | apply List.mem_cons_of_mem)) (by first | rfl | exact il_len _ | (simp only [il_len]; done) | rfl) (by decide) ?_)))
     | (refine z_isstore ?_; first
     | (refine z_stw rfl ?_; first
     | ((refine z_sti 0 rfl rfl ?_; refine o_storeb0 rfl tabOk rfl rfl rfl (by first | rfl | exact il_len _ | (simp only [il_len]; done) | rfl) (by first | rfl) (by first | rfl | exact il_len _ | (simp only [il_len]; done) | rfl) ?_))))
     | (refine z_iscall ?_; first
     | ((refine z_iscallf 42 ?_; refine o_callr rfl Try.func42 rfl rfl rfl (get_c L hL _ _ _ _ (Rds.cons _ (Rds.cons _ hrd)) (by omega)) (by decide) ?_)))
     | refine o_move rfl (by decide) ?_
     | refine o_assign rfl (by decide) ?_
     | refine o_extract rfl rfl (by decide) ?_
     | refine o_not rfl (by decide) ?_))
theorem drop_yes (L L' : List Int) (hL : Nm L) (A : Option Addr) (c : Nat) (i : Int) (fr : List Chunk) (hrd : Rds fr A (il L)) (hx : L.length ≤ 512) (ha : drL L i = some L') : Does Try.prog 14 [.agg #[.slice A L.length c], .int .i64 i] fr (fun _ : Option Addr × Nat => True) (fun x => .tuple #[.agg #[.slice x.1 L'.length x.2], .bool true]) (fun x => own x.1 x.2 3 1 L'.length (il L') :: fr) := by
  intro w hw
  refine f_enter Try.func14 rfl Try.ntmps14 rfl hw ?_
  by_cases h0 : 0 ≤ gt L i
  · obtain ⟨hd, hi0, hi1, _⟩ := dr_yes h0
    rw [hd] at ha; cases ha
    repeat' (first
     | (refine s_is ?_; first
     | (refine s_isret ?_; first
     | (exact f_r2 rfl (res_c tabOk rfl rfl rfl 1 rfl rfl) (res_t rfl) x trivial (by rw [List.length_set]) (fun w h => by rw [← il_set, List.length_set]; exact ((h.sel 3 [0, 1, 2] (by decide)).mask [true, false, false]))))
     | (refine s_isw ?_; first
     | refine c_seq ?_
     | refine c_region ?_
     | refine c_skip ?_
     | refine c_ret ?_
     | (refine s_iscond ?_; first
     | (refine c_false rfl (by first | (simp only [Bool.not_eq_false', decide_eq_true_eq]; omega) | (with_reducible assumption) | (rw [decide_eq_false] <;> (first | omega | with_reducible rfl)) | (rw [decide_eq_true] <;> (first | omega | with_reducible rfl)) | (simp; done) | (simp; omega)) ?_))))
     | (refine z_isnil ?_; first
     | refine z_list ?_)
     | (refine z_isop ?_; first
     | refine o_buildf (zs := [.slice none 0 0]) (vs := [.slice x.1 L.length x.2]) tabOk rfl rfl (by kernel_rfl) rfl ⟨_, _, rfl, rfl, by decide, rfl⟩ (by decide) ?_
     | refine o_alloca (e := 27) (vs := [.slice none 0 0]) rfl (by kernel_rfl) (by decide) fun g' => ?_
     | refine o_boxa (vs := [.slice A L.length c]) rfl rfl (by decide) fun g => ?_
     | (refine z_isload ?_; first
     | (refine z_ld1 tabOk rfl rfl ?_; first
     | refine o_loadm tabOk rfl rfl rfl (by repeat' (first | exact List.mem_cons_self | apply List.mem_cons_of_mem)) (by first | exact il_at _ (by omega) | rfl | rfl) (by decide) ?_)
     | (refine z_ldw tabOk rfl rfl ?_; first
     | (refine o_loadwm tabOk rfl rfl rfl (by repeat' (first | exact List.mem_cons_self | apply List.mem_cons_of_mem)) (by first | rfl | exact il_len _ | (simp only [il_len]; done) | rfl) (by decide) ?_)))
     | (refine z_isstore ?_; first
     | (refine o_stores rfl 0 tabOk rfl rfl rfl rfl rfl rfl (by rw [il_len]; omega) ?_)
     | (refine z_stw rfl ?_; first
     | ((refine z_sti 1 rfl rfl ?_; refine o_storeb1 rfl tabOk rfl rfl rfl (by first | rfl | exact il_len _ | (simp only [il_len]; done) | rfl) (by first | rfl) (by first | rfl | exact il_len _ | (simp only [il_len]; done) | rfl) ?_))))
     | (refine z_iscall ?_; first
     | ((refine z_iscallf 42 ?_; refine o_callr rfl Try.func42 rfl rfl rfl (get_c L hL _ _ _ _ (Rds.cons _ (Rds.cons _ hrd)) (by omega)) (by decide) ?_))
     | ((refine z_iscallf 44 ?_; refine o_calla Try.func44 rfl rfl rfl (clone_c L _ _ _ (Rds.cons _ (Rds.cons _ hrd)) (by omega)) (by decide) fun x _ => ?_; refine z_own2 0 rfl fun hkc hne => ?_)))
     | (refine z_isix ?_; first
     | refine o_indexs1 tabOk (by first | exact hne (by omega) | assumption) rfl rfl rfl rfl (by omega) (by omega) (by decide) ?_)
     | refine o_move rfl (by decide) ?_
     | refine o_assign rfl (by decide) ?_
     | refine o_extract rfl rfl (by decide) ?_
     | refine o_not rfl (by decide) ?_
     | refine o_field0 tabOk rfl rfl rfl rfl rfl (by decide) ?_))
  · rw [dr_no (by omega)] at ha; cases ha
end Go.Proofs.Ytjjhlkjnjbagfaa
