/-
Tables of names: what is asked of a name and of a number.
-/
import Derived.Test.YtjjhlkjnjbagfaaNa
namespace Go.Proofs.Ytjjhlkjnjbagfaa
set_option linter.unusedVariables false
set_option linter.unusedSimpArgs false
open Eng
attribute [local irreducible] Eng.Hold Eng.Z Eng.S Eng.cells Eng.old Eng.own il fi gt addL drL nmN
attribute [local irreducible] ix
/-- By which name. -/
def fd (L : List Int) (n : Int) : Int := if n < 0 then -1 else ix L n
theorem fd_neg {L : List Int} {n : Int} (h : n < 0) : fd L n = -1 := by unfold fd; rw [if_pos h]
theorem fd_ix {L : List Int} {n : Int} (h : ¬ n < 0) : fd L n = ix L n := by unfold fd; rw [if_neg h]
theorem fd_some {L : List Int} {n : Int} {k : Nat} (hn : ¬ n < 0) (hk : k < L.length) (h : L.getD k 0 = n) (hj : ∀ j, j < k → L.getD j 0 ≠ n) : fd L n = k := by rw [fd_ix hn, ix_some (fi_some hk h hj)]
theorem fd_none {L : List Int} {n : Int} (hj : ∀ j, j < L.length → n < 0 ∨ L.getD j 0 ≠ n) : fd L n = -1 := by
  by_cases hn : n < 0
  · exact fd_neg hn
  · rw [fd_ix hn, ix_none (fi_none fun j h => (hj j h).resolve_left hn)]
attribute [local irreducible] fd
/-- Get's first result. -/
def gv (L : List Int) (i : Int) : Int := if gt L i < 0 then 0 else gt L i
theorem gv_no {L : List Int} {i : Int} (h : gt L i = -1) : gv L i = 0 := by unfold gv; rw [h]; rfl
theorem gv_yes {L : List Int} {i : Int} (h : 0 ≤ gt L i) : gv L i = gt L i := by unfold gv; rw [if_neg (by omega)]
attribute [local irreducible] gv
theorem find_c (L : List Int) (A : Option Addr) (c : Nat) (n : Int) (fr : List Chunk) (hrd : Rds fr A (il L)) (hx : L.length ≤ 9223372036854775807) : Does Try.prog 16 [.agg #[.slice A L.length c], .int .i64 n] fr (fun _ : Unit => True) (fun _ => .tuple #[.int .i64 (if fd L n < 0 then 0 else fd L n), .bool (decide (0 ≤ fd L n))]) (fun _ => fr) := by
  intro w hw
  refine f_enter Try.func16 rfl Try.ntmps16 rfl hw ?_
  by_cases hn : n < 0
  · rw [fd_neg hn]
    repeat' (first
     | (refine s_is ?_; first
     | (refine s_isret ?_; first
     | exact f_r2 rfl (res_t rfl) (res_t rfl) () trivial (by simp) (fun w h => ((h.sel 1 [0] (by decide)).mask [false])))
     | (refine s_isw ?_; first
     | refine c_seq ?_
     | refine c_region ?_
     | refine c_ret ?_
     | (refine s_iscond ?_; first
     | (refine c_true rfl (by first | with_reducible rfl | with_reducible assumption | ((with_reducible refine decide_eq_true ?_); first | with_reducible rfl | with_reducible assumption | omega)) ?_)))
     | refine x_then_ret ?_)
     | (refine z_isg0 ?_; first
     | (refine z_skip0 (by decide) rfl rfl (by first | with_reducible rfl | with_reducible assumption | ((with_reducible refine decide_eq_true ?_); first | with_reducible rfl | with_reducible assumption | omega)) ?_))
     | (refine z_isnil ?_; first
     | refine z_list ?_)
     | (refine z_isop ?_; first
     | refine o_boxa (vs := [.slice A L.length c]) rfl rfl (by decide) fun g => ?_
     | (refine z_isbin ?_; first
     | (refine z_isb .lss ?_; first
     | refine o_lt rfl rfl (by decide) ?_))
     | (refine z_isload ?_; first
     | (refine z_ld1 tabOk rfl rfl ?_; first
     | refine o_loadm tabOk rfl rfl rfl (by repeat' (first | exact List.mem_cons_self | apply List.mem_cons_of_mem)) (by first | exact il_at _ (by omega) | rfl | rfl) (by decide) ?_))
     | (refine z_iscall ?_; first
     | ((refine z_iscallf 43 ?_; refine o_callr rfl Try.func43 rfl rfl rfl (index_c L _ _ _ _ (Rds.cons _ hrd) hx) (by decide) ?_)))
     | (refine z_ispick ?_; first
     | (refine o_pick1 rfl (by first | with_reducible rfl | with_reducible assumption | ((with_reducible refine decide_eq_true ?_); first | with_reducible rfl | with_reducible assumption | omega)) rfl (by decide) ?_))
     | refine o_move rfl (by decide) ?_
     | refine o_assign rfl (by decide) ?_
     | refine o_field0 tabOk rfl rfl rfl rfl rfl (by decide) ?_))
  · rw [fd_ix hn]
    by_cases hi : ix L n < 0
    · skip
      repeat' (first
       | (refine s_is ?_; first
       | (refine s_isret ?_; first
       | exact f_r2 rfl (res_t rfl) (res_t rfl) () trivial (by rw [if_pos hi, decide_eq_false (by omega)]) (fun w h => ((h.sel 1 [0] (by decide)).mask [false])))
       | (refine s_isw ?_; first
       | refine c_seq ?_
       | refine c_region ?_
       | refine c_ret ?_
       | (refine s_iscond ?_; first
       | (refine c_true rfl (by first | with_reducible rfl | with_reducible assumption | ((with_reducible refine decide_eq_true ?_); first | with_reducible rfl | with_reducible assumption | omega)) ?_)))
       | refine x_then_ret ?_)
       | (refine z_isg0 ?_; first
       | (refine z_want0 rfl rfl (by first | with_reducible rfl | with_reducible assumption | ((with_reducible refine decide_eq_false ?_); first | with_reducible assumption | omega)) ?_))
       | (refine z_isnil ?_; first
       | refine z_list ?_)
       | (refine z_isop ?_; first
       | refine o_boxa (vs := [.slice A L.length c]) rfl rfl (by decide) fun g => ?_
       | (refine z_isbin ?_; first
       | (refine z_isb .lss ?_; first
       | refine o_lt rfl rfl (by decide) ?_))
       | (refine z_isload ?_; first
       | (refine z_ld1 tabOk rfl rfl ?_; first
       | refine o_loadm tabOk rfl rfl rfl (by repeat' (first | exact List.mem_cons_self | apply List.mem_cons_of_mem)) (by first | exact il_at _ (by omega) | rfl | rfl) (by decide) ?_))
       | (refine z_iscall ?_; first
       | ((refine z_iscallf 43 ?_; refine o_callr rfl Try.func43 rfl rfl rfl (index_c L _ _ _ _ (Rds.cons _ hrd) hx) (by decide) ?_)))
       | (refine z_ispick ?_; first
       | (refine o_pick0 rfl (by first | with_reducible rfl | with_reducible assumption | ((with_reducible refine decide_eq_false ?_); first | with_reducible assumption | omega)) rfl (by decide) ?_))
       | refine o_move rfl (by decide) ?_
       | refine o_assign rfl (by decide) ?_
       | refine o_field0 tabOk rfl rfl rfl rfl rfl (by decide) ?_))
    · skip
      repeat' (first
       | (refine s_is ?_; first
       | (refine s_isret ?_; first
       | exact f_r2 rfl (res_t rfl) (res_t rfl) () trivial (by rw [if_neg hi, decide_eq_true (by omega)]) (fun w h => ((h.sel 1 [0] (by decide)).mask [false])))
       | (refine s_isw ?_; first
       | refine c_seq ?_
       | refine c_region ?_
       | refine c_skip ?_
       | refine c_ret ?_
       | (refine s_iscond ?_; first
       | (refine c_false rfl (by first | with_reducible rfl | with_reducible assumption | ((with_reducible refine decide_eq_false ?_); first | with_reducible assumption | omega)) ?_))))
       | (refine z_isg0 ?_; first
       | (refine z_want0 rfl rfl (by first | with_reducible rfl | with_reducible assumption | ((with_reducible refine decide_eq_false ?_); first | with_reducible assumption | omega)) ?_))
       | (refine z_isnil ?_; first
       | refine z_list ?_)
       | (refine z_isop ?_; first
       | refine o_boxa (vs := [.slice A L.length c]) rfl rfl (by decide) fun g => ?_
       | (refine z_isbin ?_; first
       | (refine z_isb .lss ?_; first
       | refine o_lt rfl rfl (by decide) ?_))
       | (refine z_isload ?_; first
       | (refine z_ld1 tabOk rfl rfl ?_; first
       | refine o_loadm tabOk rfl rfl rfl (by repeat' (first | exact List.mem_cons_self | apply List.mem_cons_of_mem)) (by first | exact il_at _ (by omega) | rfl | rfl) (by decide) ?_))
       | (refine z_iscall ?_; first
       | ((refine z_iscallf 43 ?_; refine o_callr rfl Try.func43 rfl rfl rfl (index_c L _ _ _ _ (Rds.cons _ hrd) hx) (by decide) ?_)))
       | (refine z_ispick ?_; first
       | (refine o_pick0 rfl (by first | with_reducible rfl | with_reducible assumption | ((with_reducible refine decide_eq_false ?_); first | with_reducible assumption | omega)) rfl (by decide) ?_))
       | refine o_move rfl (by decide) ?_
       | refine o_assign rfl (by decide) ?_
       | refine o_field0 tabOk rfl rfl rfl rfl rfl (by decide) ?_))
theorem get_c (L : List Int) (hL : Nm L) (A : Option Addr) (c : Nat) (i : Int) (fr : List Chunk) (hrd : Rds fr A (il L)) (hx : L.length ≤ 9223372036854775807) : Does Try.prog 42 [.agg #[.slice A L.length c], .int .i64 i] fr (fun _ : Unit => True) (fun _ => .tuple #[.int .i64 (gv L i), .bool (decide (0 ≤ gt L i))]) (fun _ => fr) := by
  intro w hw
  have hne := il_ne hrd hw
  refine f_enter Try.func42 rfl Try.ntmps42 rfl hw ?_
  by_cases hi : 0 ≤ i ∧ i < L.length
  · have hg := gt_in hi
    have hv := hL.v i.toNat (by omega)
    rw [← hg] at hv
    by_cases h1 : gt L i = -1
    · rw [gv_no h1]
      repeat' (first
       | (refine s_is ?_; first
       | (refine s_isret ?_; first
       | (exact f_r2 rfl (res_t rfl) (res_t rfl) () trivial (by rw [h1]; rfl) (fun w h => ((h.sel 1 [0] (by decide)).mask [false]))))
       | (refine s_isw ?_; first
       | refine c_seq ?_
       | refine c_region ?_
       | refine c_ret ?_
       | (refine s_iscond ?_; first
       | (refine c_true rfl (by first | with_reducible rfl | with_reducible assumption | ((with_reducible refine decide_eq_true ?_); first | with_reducible rfl | with_reducible assumption | omega)) ?_)))
       | refine x_then_ret ?_)
       | (refine z_isg0 ?_; first
       | (refine z_want0 rfl rfl (by first | with_reducible rfl | with_reducible assumption | ((with_reducible refine decide_eq_false ?_); first | with_reducible assumption | omega)) ?_))
       | (refine z_isnil ?_; first
       | refine z_list ?_)
       | (refine z_isop ?_; first
       | refine o_boxa (vs := [.slice A L.length c]) rfl rfl (by decide) fun g => ?_
       | (refine z_isbin ?_; first
       | (refine z_isb .eql ?_; first
       | refine o_eq rfl rfl (by decide) ?_)
       | (refine z_isb .lss ?_; first
       | refine o_lt rfl rfl (by decide) ?_)
       | (refine z_isb .geq ?_; first
       | refine o_ge rfl rfl (by decide) ?_))
       | (refine z_isload ?_; first
       | (refine z_ld1 tabOk rfl rfl ?_; first
       | refine o_loadm tabOk rfl rfl rfl (by repeat' (first | exact List.mem_cons_self | apply List.mem_cons_of_mem)) (by first | exact il_at _ (by omega) | rfl | rfl) (by decide) ?_
       | refine o_loads tabOk (by first | exact hrd | exact Rds.cons _ hrd | exact Rds.cons _ (Rds.cons _ hrd) | exact Rds.cons _ (Rds.cons _ (Rds.cons _ hrd)) | exact own_rds 0 rfl | exact own_rds 1 rfl | exact own_rds 2 rfl | assumption) rfl rfl rfl (by first | exact il_at _ (by omega) | rfl | rfl) (by decide) ?_))
       | (refine z_ispick ?_; first
       | (refine o_pick0 rfl (by first | with_reducible rfl | with_reducible assumption | ((with_reducible refine decide_eq_false ?_); first | with_reducible assumption | omega)) rfl (by decide) ?_))
       | (refine z_isix ?_; first
       | refine o_indexs1 tabOk (by first | exact hne (by omega) | assumption) rfl rfl rfl rfl (by omega) (by omega) (by decide) ?_)
       | (refine z_isbi ?_; first
       | refine o_len tabOk rfl rfl (by decide) ?_)
       | refine o_move rfl (by decide) ?_
       | refine o_assign rfl (by decide) ?_
       | refine o_field0 tabOk rfl rfl rfl rfl rfl (by decide) ?_))
    · have h2 : 0 ≤ gt L i := by omega
      rw [gv_yes h2]
      repeat' (first
       | (refine s_is ?_; first
       | (refine s_isret ?_; first
       | (exact f_r2 rfl (res_t rfl) (res_t rfl) () trivial (by rw [hg] at h2 ⊢; rw [decide_eq_true h2]) (fun w h => ((h.sel 1 [0] (by decide)).mask [false]))))
       | (refine s_isw ?_; first
       | refine c_seq ?_
       | refine c_region ?_
       | refine c_skip ?_
       | refine c_ret ?_
       | (refine s_iscond ?_; first
       | (refine c_false rfl (by first | with_reducible rfl | with_reducible assumption | ((with_reducible refine decide_eq_false ?_); first | with_reducible assumption | omega)) ?_))))
       | (refine z_isg0 ?_; first
       | (refine z_want0 rfl rfl (by first | with_reducible rfl | with_reducible assumption | ((with_reducible refine decide_eq_false ?_); first | with_reducible assumption | omega)) ?_))
       | (refine z_isnil ?_; first
       | refine z_list ?_)
       | (refine z_isop ?_; first
       | refine o_boxa (vs := [.slice A L.length c]) rfl rfl (by decide) fun g => ?_
       | (refine z_isbin ?_; first
       | (refine z_isb .eql ?_; first
       | refine o_eq rfl rfl (by decide) ?_)
       | (refine z_isb .lss ?_; first
       | refine o_lt rfl rfl (by decide) ?_)
       | (refine z_isb .geq ?_; first
       | refine o_ge rfl rfl (by decide) ?_))
       | (refine z_isload ?_; first
       | (refine z_ld1 tabOk rfl rfl ?_; first
       | refine o_loadm tabOk rfl rfl rfl (by repeat' (first | exact List.mem_cons_self | apply List.mem_cons_of_mem)) (by first | exact il_at _ (by omega) | rfl | rfl) (by decide) ?_
       | refine o_loads tabOk (by first | exact hrd | exact Rds.cons _ hrd | exact Rds.cons _ (Rds.cons _ hrd) | exact Rds.cons _ (Rds.cons _ (Rds.cons _ hrd)) | exact own_rds 0 rfl | exact own_rds 1 rfl | exact own_rds 2 rfl | assumption) rfl rfl rfl (by first | exact il_at _ (by omega) | rfl | rfl) (by decide) ?_))
       | (refine z_ispick ?_; first
       | (refine o_pick0 rfl (by first | with_reducible rfl | with_reducible assumption | ((with_reducible refine decide_eq_false ?_); first | with_reducible assumption | omega)) rfl (by decide) ?_))
       | (refine z_isix ?_; first
       | refine o_indexs1 tabOk (by first | exact hne (by omega) | assumption) rfl rfl rfl rfl (by omega) (by omega) (by decide) ?_)
       | (refine z_isbi ?_; first
       | refine o_len tabOk rfl rfl (by decide) ?_)
       | refine o_move rfl (by decide) ?_
       | refine o_assign rfl (by decide) ?_
       | refine o_field0 tabOk rfl rfl rfl rfl rfl (by decide) ?_))
  · have h1 := gt_out hi
    rw [gv_no h1]
    by_cases h0 : i < 0
    · skip
      repeat' (first
       | (refine s_is ?_; first
       | (refine s_isret ?_; first
       | (exact f_r2 rfl (res_t rfl) (res_t rfl) () trivial (by rw [h1]; rfl) (fun w h => ((h.sel 1 [0] (by decide)).mask [false]))))
       | (refine s_isw ?_; first
       | refine c_seq ?_
       | refine c_region ?_
       | refine c_ret ?_
       | (refine s_iscond ?_; first
       | (refine c_true rfl (by first | with_reducible rfl | with_reducible assumption | ((with_reducible refine decide_eq_true ?_); first | with_reducible rfl | with_reducible assumption | omega)) ?_)))
       | refine x_then_ret ?_)
       | (refine z_isg0 ?_; first
       | (refine z_skip0 (by decide) rfl rfl (by first | with_reducible rfl | with_reducible assumption | ((with_reducible refine decide_eq_true ?_); first | with_reducible rfl | with_reducible assumption | omega)) ?_))
       | (refine z_isnil ?_; first
       | refine z_list ?_)
       | (refine z_isop ?_; first
       | refine o_boxa (vs := [.slice A L.length c]) rfl rfl (by decide) fun g => ?_
       | (refine z_isbin ?_; first
       | (refine z_isb .lss ?_; first
       | refine o_lt rfl rfl (by decide) ?_))
       | (refine z_ispick ?_; first
       | (refine o_pick1 rfl (by first | with_reducible rfl | with_reducible assumption | ((with_reducible refine decide_eq_true ?_); first | with_reducible rfl | with_reducible assumption | omega)) rfl (by decide) ?_))
       | refine o_move rfl (by decide) ?_
       | refine o_assign rfl (by decide) ?_))
    · skip
      repeat' (first
       | (refine s_is ?_; first
       | (refine s_isret ?_; first
       | (exact f_r2 rfl (res_t rfl) (res_t rfl) () trivial (by rw [h1]; rfl) (fun w h => ((h.sel 1 [0] (by decide)).mask [false]))))
       | (refine s_isw ?_; first
       | refine c_seq ?_
       | refine c_region ?_
       | refine c_ret ?_
       | (refine s_iscond ?_; first
       | (refine c_true rfl (by first | with_reducible rfl | with_reducible assumption | ((with_reducible refine decide_eq_true ?_); first | with_reducible rfl | with_reducible assumption | omega)) ?_)))
       | refine x_then_ret ?_)
       | (refine z_isg0 ?_; first
       | (refine z_want0 rfl rfl (by first | with_reducible rfl | with_reducible assumption | ((with_reducible refine decide_eq_false ?_); first | with_reducible assumption | omega)) ?_)
       | (refine z_skip0 (by decide) rfl rfl (by first | with_reducible rfl | with_reducible assumption | ((with_reducible refine decide_eq_true ?_); first | with_reducible rfl | with_reducible assumption | omega)) ?_))
       | (refine z_isnil ?_; first
       | refine z_list ?_)
       | (refine z_isop ?_; first
       | refine o_boxa (vs := [.slice A L.length c]) rfl rfl (by decide) fun g => ?_
       | (refine z_isbin ?_; first
       | (refine z_isb .lss ?_; first
       | refine o_lt rfl rfl (by decide) ?_)
       | (refine z_isb .geq ?_; first
       | refine o_ge rfl rfl (by decide) ?_))
       | (refine z_isload ?_; first
       | (refine z_ld1 tabOk rfl rfl ?_; first
       | refine o_loadm tabOk rfl rfl rfl (by repeat' (first | exact List.mem_cons_self | apply List.mem_cons_of_mem)) (by first | exact il_at _ (by omega) | rfl | rfl) (by decide) ?_))
       | (refine z_ispick ?_; first
       | (refine o_pick1 rfl (by first | with_reducible rfl | with_reducible assumption | ((with_reducible refine decide_eq_true ?_); first | with_reducible rfl | with_reducible assumption | omega)) rfl (by decide) ?_)
       | (refine o_pick0 rfl (by first | with_reducible rfl | with_reducible assumption | ((with_reducible refine decide_eq_false ?_); first | with_reducible assumption | omega)) rfl (by decide) ?_))
       | (refine z_isbi ?_; first
       | refine o_len tabOk rfl rfl (by decide) ?_)
       | refine o_move rfl (by decide) ?_
       | refine o_assign rfl (by decide) ?_
       | refine o_field0 tabOk rfl rfl rfl rfl rfl (by decide) ?_))
theorem rget_c (L : List Int) (A : Option Addr) (c : Nat) (i : Int) (fr : List Chunk) (hrd : Rds fr A (il L)) (hx : L.length ≤ 9223372036854775807) : Does Try.prog 34 [.slice A L.length c, .int .i64 i] fr (fun _ : Unit => True) (fun _ => .int .i64 (gt L i)) (fun _ => fr) := by
  intro w hw
  have hne := il_ne hrd hw
  refine f_enter Try.func34 rfl Try.ntmps34 rfl hw ?_
  by_cases hi : 0 ≤ i ∧ i < L.length
  · rw [gt_in hi]
    repeat' (first
     | (refine s_is ?_; first
     | (refine s_isret ?_; first
     | exact f_r1 rfl (res_t rfl) () trivial rfl (fun w h => h))
     | (refine s_isw ?_; first
     | refine c_seq ?_
     | refine c_region ?_
     | refine c_skip ?_
     | refine c_ret ?_
     | (refine s_iscond ?_; first
     | (refine c_false rfl (by first | with_reducible rfl | with_reducible assumption | ((with_reducible refine decide_eq_false ?_); first | with_reducible assumption | omega)) ?_))))
     | (refine z_isg0 ?_; first
     | (refine z_want0 rfl rfl (by first | with_reducible rfl | with_reducible assumption | ((with_reducible refine decide_eq_false ?_); first | with_reducible assumption | omega)) ?_))
     | (refine z_isnil ?_; first
     | refine z_list ?_)
     | (refine z_isop ?_; first
     | (refine z_isbin ?_; first
     | (refine z_isb .lss ?_; first
     | refine o_lt rfl rfl (by decide) ?_)
     | (refine z_isb .geq ?_; first
     | refine o_ge rfl rfl (by decide) ?_))
     | (refine z_isload ?_; first
     | (refine z_ld1 tabOk rfl rfl ?_; first
     | refine o_loads tabOk (by first | exact hrd | exact Rds.cons _ hrd | exact Rds.cons _ (Rds.cons _ hrd) | exact Rds.cons _ (Rds.cons _ (Rds.cons _ hrd)) | exact own_rds 0 rfl | exact own_rds 1 rfl | exact own_rds 2 rfl | assumption) rfl rfl rfl (by first | exact il_at _ (by omega) | rfl | rfl) (by decide) ?_))
     | (refine z_ispick ?_; first
     | (refine o_pick0 rfl (by first | with_reducible rfl | with_reducible assumption | ((with_reducible refine decide_eq_false ?_); first | with_reducible assumption | omega)) rfl (by decide) ?_))
     | (refine z_isix ?_; first
     | refine o_indexs1 tabOk (by first | exact hne (by omega) | assumption) rfl rfl rfl rfl (by omega) (by omega) (by decide) ?_)
     | (refine z_isbi ?_; first
     | refine o_len tabOk rfl rfl (by decide) ?_)
     | refine o_move rfl (by decide) ?_
     | refine o_assign rfl (by decide) ?_))
  · rw [gt_out hi]
    by_cases h0 : i < 0
    · skip
      repeat' (first
       | (refine s_is ?_; first
       | (refine s_isret ?_; first
       | exact f_r1 rfl (res_t rfl) () trivial rfl (fun w h => h))
       | (refine s_isw ?_; first
       | refine c_seq ?_
       | refine c_region ?_
       | refine c_ret ?_
       | (refine s_iscond ?_; first
       | (refine c_true rfl (by first | with_reducible rfl | with_reducible assumption | ((with_reducible refine decide_eq_true ?_); first | with_reducible rfl | with_reducible assumption | omega)) ?_)))
       | refine x_then_ret ?_)
       | (refine z_isg0 ?_; first
       | (refine z_skip0 (by decide) rfl rfl (by first | with_reducible rfl | with_reducible assumption | ((with_reducible refine decide_eq_true ?_); first | with_reducible rfl | with_reducible assumption | omega)) ?_))
       | (refine z_isnil ?_; first
       | refine z_list ?_)
       | (refine z_isop ?_; first
       | (refine z_isbin ?_; first
       | (refine z_isb .lss ?_; first
       | refine o_lt rfl rfl (by decide) ?_))
       | (refine z_ispick ?_; first
       | (refine o_pick1 rfl (by first | with_reducible rfl | with_reducible assumption | ((with_reducible refine decide_eq_true ?_); first | with_reducible rfl | with_reducible assumption | omega)) rfl (by decide) ?_))
       | refine o_move rfl (by decide) ?_
       | refine o_assign rfl (by decide) ?_))
    · skip
      repeat' (first
       | (refine s_is ?_; first
       | (refine s_isret ?_; first
       | exact f_r1 rfl (res_t rfl) () trivial rfl (fun w h => h))
       | (refine s_isw ?_; first
       | refine c_seq ?_
       | refine c_region ?_
       | refine c_ret ?_
       | (refine s_iscond ?_; first
       | (refine c_true rfl (by first | with_reducible rfl | with_reducible assumption | ((with_reducible refine decide_eq_true ?_); first | with_reducible rfl | with_reducible assumption | omega)) ?_)))
       | refine x_then_ret ?_)
       | (refine z_isg0 ?_; first
       | (refine z_want0 rfl rfl (by first | with_reducible rfl | with_reducible assumption | ((with_reducible refine decide_eq_false ?_); first | with_reducible assumption | omega)) ?_))
       | (refine z_isnil ?_; first
       | refine z_list ?_)
       | (refine z_isop ?_; first
       | (refine z_isbin ?_; first
       | (refine z_isb .lss ?_; first
       | refine o_lt rfl rfl (by decide) ?_)
       | (refine z_isb .geq ?_; first
       | refine o_ge rfl rfl (by decide) ?_))
       | (refine z_ispick ?_; first
       | (refine o_pick0 rfl (by first | with_reducible rfl | with_reducible assumption | ((with_reducible refine decide_eq_false ?_); first | with_reducible assumption | omega)) rfl (by decide) ?_))
       | (refine z_isbi ?_; first
       | refine o_len tabOk rfl rfl (by decide) ?_)
       | refine o_move rfl (by decide) ?_
       | refine o_assign rfl (by decide) ?_))
theorem rfind_c (L : List Int) (A : Option Addr) (c : Nat) (n : Int) (fr : List Chunk) (hrd : Rds fr A (il L)) (hx : L.length ≤ 9223372036854775807) : Does Try.prog 17 [.slice A L.length c, .int .i64 n] fr (fun _ : Unit => True) (fun _ => .int .i64 (fd L n)) (fun _ => fr) := by
  intro w hw
  have hne := il_ne hrd hw
  refine f_enter Try.func17 rfl Try.ntmps17 rfl hw ?_
  repeat' (first
   | (refine s_is ?_; first
   | (refine s_isw ?_; first
   | (refine s_isloop ?_; first
   | ((refine c_loop (X := Nat) (fun k => k ≤ L.length ∧ ∀ j, j < k → n < 0 ∨ L.getD j 0 ≠ n) (fun k => [(0, .slice A L.length c), (1, .int .i64 n), (5, .int .i64 k)]) (fun _ => fr) (fun k => L.length - k) 0 ⟨Nat.zero_le _, fun j hj => by omega⟩ ⟨rfl, rfl, rfl, trivial⟩ (fun w h => h) (fun k hk => ?_); refine hold ?_)))
   | refine c_seq ?_
   | refine c_block ?_
   | refine c_region ?_))
   | (refine z_isnil ?_; first
   | refine z_list ?_)
   | (refine z_isop ?_; first
   | refine o_assign rfl (by decide) ?_))
  refine Hold.go ?_
  obtain ⟨hk, hj⟩ := hk
  by_cases hl : k < L.length
  · have e3 : ((k : Int)).toNat = k := Int.toNat_natCast k
    by_cases hn : n < 0
    · have hj2 : ∀ j, j < k + 1 → n < 0 ∨ L.getD j 0 ≠ n := fun j _ => .inl hn
      repeat' (first
       | (refine s_is ?_; first
       | (refine s_isagain ?_; first
       | exact c_again (k + 1) ⟨by omega, hj2⟩ (by omega) ⟨rfl, rfl, rfl, trivial⟩ (fun w h => h))
       | (refine s_isw ?_; first
       | refine c_seq ?_
       | refine c_block ?_
       | refine c_region ?_
       | refine c_skip ?_
       | (refine s_iscond ?_; first
       | (refine c_true rfl (by first | with_reducible rfl | with_reducible assumption | ((with_reducible refine decide_eq_true ?_); first | with_reducible rfl | with_reducible assumption | omega)) ?_)
       | (refine c_false rfl (by first | with_reducible rfl | with_reducible assumption | ((with_reducible refine decide_eq_false ?_); first | with_reducible assumption | omega)) ?_))))
       | (refine z_isg1 ?_; first
       | (refine z_skip1 (by decide) rfl rfl (by first | with_reducible rfl | with_reducible assumption | ((with_reducible refine decide_eq_false ?_); first | with_reducible assumption | omega)) ?_))
       | (refine z_isnil ?_; first
       | refine z_list ?_)
       | (refine z_isop ?_; first
       | (refine z_isbin ?_; first
       | (refine z_isb .add ?_; first
       | refine o_add rfl rfl (by omega) (by omega) (by decide) ?_)
       | (refine z_isb .lss ?_; first
       | refine o_lt rfl rfl (by decide) ?_)
       | (refine z_isb .geq ?_; first
       | refine o_ge rfl rfl (by decide) ?_))
       | (refine z_ispick ?_; first
       | (refine o_pick0 rfl (by first | with_reducible rfl | with_reducible assumption | ((with_reducible refine decide_eq_false ?_); first | with_reducible assumption | omega)) rfl (by decide) ?_))
       | (refine z_isbi ?_; first
       | refine o_len tabOk rfl rfl (by decide) ?_)
       | refine o_move rfl (by decide) ?_
       | refine o_assign rfl (by decide) ?_))
    · have hj1 : ∀ j, j < k → L.getD j 0 ≠ n := fun j h => (hj j h).resolve_left hn
      by_cases h : L.getD k 0 = n
      · have h' : L.getD ((k : Int)).toNat 0 = n := by rw [e3]; exact h
        repeat' (first
         | (refine s_is ?_; first
         | (refine s_isret ?_; first
         | exact f_r1 rfl (res_t rfl) () trivial (by rw [fd_some hn hl h hj1]) (fun w h => h))
         | (refine s_isw ?_; first
         | refine c_seq ?_
         | refine c_block ?_
         | refine c_region ?_
         | refine c_skip ?_
         | refine c_ret ?_
         | (refine s_iscond ?_; first
         | (refine c_true rfl (by first | with_reducible rfl | with_reducible assumption | ((with_reducible refine decide_eq_true ?_); first | with_reducible rfl | with_reducible assumption | omega)) ?_)))
         | refine x_then_ret ?_
         | refine x_block_ret _ ?_)
         | (refine z_isg1 ?_; first
         | (refine z_want1 rfl rfl (by first | with_reducible rfl | with_reducible assumption | ((with_reducible refine decide_eq_true ?_); first | with_reducible rfl | with_reducible assumption | omega)) ?_))
         | (refine z_isnil ?_; first
         | refine z_list ?_)
         | (refine z_isop ?_; first
         | (refine z_isbin ?_; first
         | (refine z_isb .eql ?_; first
         | refine o_eq rfl rfl (by decide) ?_)
         | (refine z_isb .lss ?_; first
         | refine o_lt rfl rfl (by decide) ?_)
         | (refine z_isb .geq ?_; first
         | refine o_ge rfl rfl (by decide) ?_))
         | (refine z_isload ?_; first
         | (refine z_ld1 tabOk rfl rfl ?_; first
         | refine o_loads tabOk (by first | exact hrd | exact Rds.cons _ hrd | exact Rds.cons _ (Rds.cons _ hrd) | exact Rds.cons _ (Rds.cons _ (Rds.cons _ hrd)) | exact own_rds 0 rfl | exact own_rds 1 rfl | exact own_rds 2 rfl | assumption) rfl rfl rfl (by first | exact il_at _ (by omega) | rfl | rfl) (by decide) ?_))
         | (refine z_ispick ?_; first
         | (refine o_pick1 rfl (by first | with_reducible rfl | with_reducible assumption | ((with_reducible refine decide_eq_true ?_); first | with_reducible rfl | with_reducible assumption | omega)) rfl (by decide) ?_))
         | (refine z_isix ?_; first
         | refine o_indexs1 tabOk (by first | exact hne (by omega) | assumption) rfl rfl rfl rfl (by omega) (by omega) (by decide) ?_)
         | (refine z_isbi ?_; first
         | refine o_len tabOk rfl rfl (by decide) ?_)
         | refine o_move rfl (by decide) ?_
         | refine o_assign rfl (by decide) ?_))
      · have h' : L.getD ((k : Int)).toNat 0 ≠ n := by rw [e3]; exact h
        have hj2 : ∀ j, j < k + 1 → n < 0 ∨ L.getD j 0 ≠ n := fun j hj => .inr (nstep hj1 h j hj)
        repeat' (first
         | (refine s_is ?_; first
         | (refine s_isagain ?_; first
         | exact c_again (k + 1) ⟨by omega, hj2⟩ (by omega) ⟨rfl, rfl, rfl, trivial⟩ (fun w h => h))
         | (refine s_isw ?_; first
         | refine c_seq ?_
         | refine c_block ?_
         | refine c_region ?_
         | refine c_skip ?_
         | (refine s_iscond ?_; first
         | (refine c_true rfl (by first | with_reducible rfl | with_reducible assumption | ((with_reducible refine decide_eq_true ?_); first | with_reducible rfl | with_reducible assumption | omega)) ?_)
         | (refine c_false rfl (by first | with_reducible rfl | with_reducible assumption | ((with_reducible refine decide_eq_false ?_); first | with_reducible assumption | omega)) ?_))))
         | (refine z_isg1 ?_; first
         | (refine z_want1 rfl rfl (by first | with_reducible rfl | with_reducible assumption | ((with_reducible refine decide_eq_true ?_); first | with_reducible rfl | with_reducible assumption | omega)) ?_))
         | (refine z_isnil ?_; first
         | refine z_list ?_)
         | (refine z_isop ?_; first
         | (refine z_isbin ?_; first
         | (refine z_isb .add ?_; first
         | refine o_add rfl rfl (by omega) (by omega) (by decide) ?_)
         | (refine z_isb .eql ?_; first
         | refine o_eq rfl rfl (by decide) ?_)
         | (refine z_isb .lss ?_; first
         | refine o_lt rfl rfl (by decide) ?_)
         | (refine z_isb .geq ?_; first
         | refine o_ge rfl rfl (by decide) ?_))
         | (refine z_isload ?_; first
         | (refine z_ld1 tabOk rfl rfl ?_; first
         | refine o_loads tabOk (by first | exact hrd | exact Rds.cons _ hrd | exact Rds.cons _ (Rds.cons _ hrd) | exact Rds.cons _ (Rds.cons _ (Rds.cons _ hrd)) | exact own_rds 0 rfl | exact own_rds 1 rfl | exact own_rds 2 rfl | assumption) rfl rfl rfl (by first | exact il_at _ (by omega) | rfl | rfl) (by decide) ?_))
         | (refine z_ispick ?_; first
         | (refine o_pick1 rfl (by first | with_reducible rfl | with_reducible assumption | ((with_reducible refine decide_eq_true ?_); first | with_reducible rfl | with_reducible assumption | omega)) rfl (by decide) ?_))
         | (refine z_isix ?_; first
         | refine o_indexs1 tabOk (by first | exact hne (by omega) | assumption) rfl rfl rfl rfl (by omega) (by omega) (by decide) ?_)
         | (refine z_isbi ?_; first
         | refine o_len tabOk rfl rfl (by decide) ?_)
         | refine o_move rfl (by decide) ?_
         | refine o_assign rfl (by decide) ?_))
  · obtain rfl : k = L.length := by omega
    repeat' (first
     | (refine s_is ?_; first
     | (refine s_isret ?_; first
     | exact f_r1 rfl (res_t rfl) () trivial (by rw [fd_none hj]) (fun w h => h))
     | (refine s_isw ?_; first
     | refine c_seq ?_
     | refine c_region ?_
     | refine c_ret ?_
     | refine c_exit ?_
     | (refine s_iscond ?_; first
     | (refine c_false rfl (by first | with_reducible rfl | with_reducible assumption | ((with_reducible refine decide_eq_false ?_); first | with_reducible assumption | omega)) ?_))))
     | (refine z_isnil ?_; first
     | refine z_list ?_)
     | (refine z_isop ?_; first
     | (refine z_isbin ?_; first
     | (refine z_isb .lss ?_; first
     | refine o_lt rfl rfl (by decide) ?_))
     | (refine z_isbi ?_; first
     | refine o_len tabOk rfl rfl (by decide) ?_)
     | refine o_move rfl (by decide) ?_
     | refine o_assign rfl (by decide) ?_))
end Go.Proofs.Ytjjhlkjnjbagfaa
