/-
The law of the kill: no handler catches it.
-/
import Derived.Test.YtjejnlfbonpfaaaDoorSig9
namespace Go.Proofs.YtjejnlfbonpfaaaDoor
set_option linter.unusedVariables false
set_option linter.unusedSimpArgs false
open Eng
theorem de_at (D : List De) {k : Nat} (d : De) (h : D[k]? = some d) : ∀ j u, d.cs[j]? = some u → (D.flatMap De.cs)[k * 20 + j]? = some u := fun j u hu => by
  have hj : j < 20 := by
    have := (List.getElem?_eq_some_iff.1 hu).1
    rwa [de_len] at this
  rw [flat_get De.cs 20 de_len D k j d h hj]
  exact hu
theorem kill_waits {s : Sg} {r : Rf} (h : Re s r) : (s.raise 1).waits 1 = true := by
  have h1 := (set_ok h.w (i := 1) (by decide)).2 1 (by decide)
  have h2 : (s.raise 1).w = setb s.w 1 := by simp [Sg.raise, setb]
  have h3 := waits_bit (s := s.raise 1) (m := 1) (by decide)
  rw [h2] at h3
  exact h3.trans (h1.trans (by simp))
theorem kill_next {s : Sg} {r : Rf} (h : Re s r) (c : Cx) : (s.raise 1).next c = ({ s.raise 1 with w := 0 }, 1, 1, c) := by
  simp only [Sg.next, kill_waits h, if_true]
attribute [local irreducible] Eng.Hold Eng.Z Eng.S Eng.cells Eng.old Eng.own Sg.cs Cx.cs hsCs deB deT tzi dCs tz Sg.waits Rf.cs boCs De.cs Sg.raise Rf.raise Sg.next Sg.ret Sg.armed cxK Eng.eqB
set_option maxHeartbeats 8000000 in
theorem sigKill (W : World) (A0 : Option Addr) (c0 : Nat) (D : List De) (a : Int) (c : Cx) (hrd : Rds [old W] A0 (D.flatMap De.cs)) (hT : Rds [old W] (some ⟨0, 0, none⟩) deB) (hx : D.length ≤ 9223372036854775807) (hok : ∀ d ∈ D, 0 ≤ d.a) (ha : 0 ≤ a) :
    Does Tryd.prog 4 [.slice A0 D.length c0, .int .u32 a, .agg c.cs.toArray] [old W] (fun _ : Unit => True) (fun _ => .bool true) (fun _ => [old W]) := by
  intro w hw
  have hne : 0 < D.length → A0 ≠ none := fun h => hrd.ne hw (by rw [flat_len De.cs 20 de_len]; omega)
  refine f_enter Tryd.func4 rfl Tryd.ntmps4 rfl hw ?_
  repeat' (first
   | (refine s_is ?_; first
   | (refine s_isw ?_; first
   | (refine s_isloop ?_; first
   | ((rename_i g5 g7; refine c_loop (X := Nat × Sg × Rf) (fun y => y.1 ≤ D.length ∧ Re y.2.1 y.2.2) (fun y => [(0, .slice A0 D.length c0), (1, .int .u32 a), (5, .pointer (some ⟨g5, 0, none⟩)), (7, .pointer (some ⟨g7, 0, none⟩)), (8, .pointer (some ⟨g, 0, none⟩)), (9, .int .i64 y.1)]) (fun y => [cells g 34 y.2.2.cs, cells g7 30 y.2.1.cs, cells g5 26 c.cs, old W]) (fun y => D.length - y.1) (0, Sg.zero, Rf.zero) ⟨Nat.zero_le _, re_zero⟩ ⟨rfl, rfl, rfl, rfl, rfl, rfl, trivial⟩ (fun w h => h) (fun y hy => ?_); obtain ⟨i, s, r⟩ := y; obtain ⟨hi, hre⟩ := hy; dsimp only at hi hre ⊢; refine hold ?_)))
   | refine c_seq ?_
   | refine c_block ?_
   | refine c_region ?_
   | refine c_mixed mixed (by kernel_rfl) ?_
   | refine c_skip ?_
   | refine c_ret ?_
   | refine c_exit ?_
   | (refine s_iscond ?_; first
   | (refine c_true rfl (by first | with_reducible rfl | with_reducible assumption | ((with_reducible refine decide_eq_true ?_); first | with_reducible rfl | with_reducible assumption | omega)) ?_)
   | (refine c_false rfl (by first | with_reducible rfl | with_reducible assumption | ((with_reducible refine decide_eq_false ?_); first | with_reducible assumption | omega)) ?_)
   | (refine c_true rfl (by first | (simp only [Bool.not_eq_true', decide_eq_false_iff_not]; omega) | (with_reducible assumption) | (rw [decide_eq_false] <;> (first | omega | with_reducible rfl)) | (rw [decide_eq_true] <;> (first | omega | with_reducible rfl)) | (simp; done) | (simp; omega)) ?_)
   | (refine c_false rfl (by first | (simp only [Bool.not_eq_false', decide_eq_true_eq]; omega) | (with_reducible assumption) | (rw [decide_eq_false] <;> (first | omega | with_reducible rfl)) | (rw [decide_eq_true] <;> (first | omega | with_reducible rfl)) | (simp; done) | (simp; omega)) ?_)
   | refine c_cond rfl (fun hc => ?_) (fun hc => ?_)
   | refine c_condb rfl (fun hc => ?_) (fun hc => ?_)))
   | refine x_then ?_
   | refine x_then_ret ?_
   | refine x_then_exit ?_
   | refine x_block _ ?_
   | refine x_block_ret _ ?_
   | refine x_block_exit _ ?_
   | refine x_block_past (by decide) ?_
   | refine z_tailm ?_)
   | (refine z_isg1 ?_; first
   | refine z_skipu (by decide) rfl rfl ?_
   | (refine z_want1 rfl rfl (by first | with_reducible rfl | with_reducible assumption | ((with_reducible refine decide_eq_true ?_); first | with_reducible rfl | with_reducible assumption | omega)) ?_)
   | (refine z_skip1 (by decide) rfl rfl (by first | with_reducible rfl | with_reducible assumption | ((with_reducible refine decide_eq_false ?_); first | with_reducible assumption | omega)) ?_)
   | (refine z_want1 rfl rfl (by first | (simp only [Bool.not_eq_true', decide_eq_false_iff_not]; omega) | (with_reducible assumption) | (rw [decide_eq_false] <;> (first | omega | with_reducible rfl)) | (rw [decide_eq_true] <;> (first | omega | with_reducible rfl)) | (simp; done) | (simp; omega)) ?_)
   | (refine z_skip1 (by decide) rfl rfl (by first | (simp only [Bool.not_eq_false', decide_eq_true_eq]; omega) | (with_reducible assumption) | (rw [decide_eq_false] <;> (first | omega | with_reducible rfl)) | (rw [decide_eq_true] <;> (first | omega | with_reducible rfl)) | (simp; done) | (simp; omega)) ?_)
   | refine z_guard1 (by decide) rfl rfl (fun hc => ?_) (fun hc => ?_)
   | refine z_guardb (by decide) rfl rfl (fun hc => ?_) (fun hc => ?_))
   | (refine z_isnil ?_; first
   | refine z_keep1 ?_
   | refine z_keep2 ?_
   | refine z_list ?_
   | refine z_mixed ?_
   | refine z_mono0 ?_
   | refine z_mono1 (by decide) fun g => ?_
   | refine z_mono2 (by decide) (by decide) fun g g' => ?_
   | refine z_mixedx ?_
   | refine z_quiet ?_)
   | (refine z_isop ?_; first
   | refine o_build (t := 34) (v := .agg Rf.zero.cs.toArray) rfl (fun _ => by kernel_rfl) (by decide) ?_
   | refine o_boxa rfl rfl (by decide) fun g => ?_
   | refine o_alloca (e := 30) (vs := Sg.zero.cs) rfl (by kernel_rfl) (by decide) fun g => ?_
   | refine o_alloca (e := 26) (vs := Cx.zero.cs) rfl (by kernel_rfl) (by decide) fun g => ?_
   | refine o_alloca (e := 40) (vs := dCs 0 0 Cx.zero) rfl (by kernel_rfl) (by decide) fun g => ?_
   | refine o_buildf (t := 40) (zs := dCs 0 0 Cx.zero) tabOk rfl rfl (by kernel_rfl) rfl (d_fill _ _ _) (by decide) ?_
   | refine o_build (t := 26) (v := .agg Cx.zero.cs.toArray) rfl (fun _ => by kernel_rfl) (by decide) ?_
   | (refine z_isbin ?_; first
   | refine o_eqa cmp40 rfl rfl (d_typed _ _ _) (d_typed _ _ _) (by decide) ?_
   | refine o_eqa cmp26 rfl rfl (cx_typed _) (cx_typed _) (by decide) ?_
   | (refine z_isb .add ?_; first
   | refine o_add rfl rfl (by omega) (by omega) (by decide) ?_
   | refine o_addw rfl rfl (by decide) ?_)
   | (refine z_isb .eql ?_; first
   | refine o_eq rfl rfl (by decide) ?_
   | refine o_beq tabOk rfl rfl rfl (by decide) ?_
   | refine o_peq tabOk rfl rfl (by decide) ?_)
   | (refine z_isb .lss ?_; first
   | refine o_lt rfl rfl (by decide) ?_))
   | (refine z_isload ?_; first
   | refine o_loadp tabOk rfl rfl rfl 1 rfl (cx_len _) (de_c _) (by decide) ?_
   | refine o_loadp tabOk rfl rfl rfl 3 rfl (cx_len _) (de_c _) (by decide) ?_
   | (refine z_ld1 tabOk rfl rfl ?_; first
   | refine o_loadm tabOk rfl rfl rfl (by repeat' (first | exact List.mem_cons_self | apply List.mem_cons_of_mem)) (by first | exact d_pc _ _ _ | exact de_k _ | exact de_s _ | exact de_a _ | exact d_k _ _ _ | exact d_n _ _ _ | rfl) (by decide) ?_
   | refine o_loads tabOk (by first | assumption | exact Rds.cons _ (by assumption) | exact Rds.cons _ (Rds.cons _ (by assumption)) | exact own_rds 0 rfl | exact own_rds 1 rfl | exact own_rds 2 rfl) rfl rfl rfl (by first | exact d_pc _ _ _ | exact de_k _ | exact de_s _ | exact de_a _ | exact d_k _ _ _ | exact d_n _ _ _ | rfl) (by decide) ?_)
   | (refine z_ldw tabOk rfl rfl ?_; first
   | refine o_loadwm tabOk rfl rfl rfl (by repeat' (first | exact List.mem_cons_self | apply List.mem_cons_of_mem)) (by first | exact sg_len _ | exact cx_len _ | exact d_len _ _ _ | exact de_len _ | exact rf_len _ | (simp only [sg_len, cx_len, d_len, de_len, rf_len]) | rfl) (by decide) ?_))
   | (refine z_isstore ?_; first
   | refine o_storebk 0 tabOk rfl rfl rfl rfl (by first | exact sg_len _ | exact cx_len _ | exact d_len _ _ _ | exact de_len _ | exact rf_len _ | (simp only [sg_len, cx_len, d_len, de_len, rf_len]) | rfl) (by first | exact sg_one _ | exact cx_one _ | exact d_one _ _ _ | exact de_one _ | exact rf_one _ | rfl) (by first | exact sg_len _ | exact cx_len _ | exact d_len _ _ _ | exact de_len _ | exact rf_len _ | (simp only [sg_len, cx_len, d_len, de_len, rf_len]) | rfl) ?_
   | refine o_storebk 1 tabOk rfl rfl rfl rfl (by first | exact sg_len _ | exact cx_len _ | exact d_len _ _ _ | exact de_len _ | exact rf_len _ | (simp only [sg_len, cx_len, d_len, de_len, rf_len]) | rfl) (by first | exact sg_one _ | exact cx_one _ | exact d_one _ _ _ | exact de_one _ | exact rf_one _ | rfl) (by first | exact sg_len _ | exact cx_len _ | exact d_len _ _ _ | exact de_len _ | exact rf_len _ | (simp only [sg_len, cx_len, d_len, de_len, rf_len]) | rfl) ?_
   | (refine z_stw rfl ?_; first
   | ((refine z_sti 0 rfl rfl ?_; refine o_storeb0 rfl tabOk rfl rfl rfl (by first | exact sg_len _ | exact cx_len _ | exact d_len _ _ _ | exact de_len _ | exact rf_len _ | (simp only [sg_len, cx_len, d_len, de_len, rf_len]) | rfl) (by first | exact sg_one _ | exact cx_one _ | exact d_one _ _ _ | exact de_one _ | exact rf_one _ | rfl) (by first | exact sg_len _ | exact cx_len _ | exact d_len _ _ _ | exact de_len _ | exact rf_len _ | (simp only [sg_len, cx_len, d_len, de_len, rf_len]) | rfl) ?_))
   | ((refine z_sti 1 rfl rfl ?_; refine o_storeb1 rfl tabOk rfl rfl rfl (by first | exact sg_len _ | exact cx_len _ | exact d_len _ _ _ | exact de_len _ | exact rf_len _ | (simp only [sg_len, cx_len, d_len, de_len, rf_len]) | rfl) (by first | exact sg_one _ | exact cx_one _ | exact d_one _ _ _ | exact de_one _ | exact rf_one _ | rfl) (by first | exact sg_len _ | exact cx_len _ | exact d_len _ _ _ | exact de_len _ | exact rf_len _ | (simp only [sg_len, cx_len, d_len, de_len, rf_len]) | rfl) ?_))
   | ((refine z_sti 2 rfl rfl ?_; refine o_storeb2 rfl tabOk rfl rfl rfl (by first | exact sg_len _ | exact cx_len _ | exact d_len _ _ _ | exact de_len _ | exact rf_len _ | (simp only [sg_len, cx_len, d_len, de_len, rf_len]) | rfl) (by first | exact sg_one _ | exact cx_one _ | exact d_one _ _ _ | exact de_one _ | exact rf_one _ | rfl) (by first | exact sg_len _ | exact cx_len _ | exact d_len _ _ _ | exact de_len _ | exact rf_len _ | (simp only [sg_len, cx_len, d_len, de_len, rf_len]) | rfl) ?_))
   | ((refine z_sti 3 rfl rfl ?_; refine o_storeb3 rfl tabOk rfl rfl rfl (by first | exact sg_len _ | exact cx_len _ | exact d_len _ _ _ | exact de_len _ | exact rf_len _ | (simp only [sg_len, cx_len, d_len, de_len, rf_len]) | rfl) (by first | exact sg_one _ | exact cx_one _ | exact d_one _ _ _ | exact de_one _ | exact rf_one _ | rfl) (by first | exact sg_len _ | exact cx_len _ | exact d_len _ _ _ | exact de_len _ | exact rf_len _ | (simp only [sg_len, cx_len, d_len, de_len, rf_len]) | rfl) ?_))
   | ((refine z_sti 4 rfl rfl ?_; refine o_storeb4 rfl tabOk rfl rfl rfl (by first | exact sg_len _ | exact cx_len _ | exact d_len _ _ _ | exact de_len _ | exact rf_len _ | (simp only [sg_len, cx_len, d_len, de_len, rf_len]) | rfl) (by first | exact sg_one _ | exact cx_one _ | exact d_one _ _ _ | exact de_one _ | exact rf_one _ | rfl) (by first | exact sg_len _ | exact cx_len _ | exact d_len _ _ _ | exact de_len _ | exact rf_len _ | (simp only [sg_len, cx_len, d_len, de_len, rf_len]) | rfl) ?_))
   | ((refine z_sti 5 rfl rfl ?_; refine o_storeb5 rfl tabOk rfl rfl rfl (by first | exact sg_len _ | exact cx_len _ | exact d_len _ _ _ | exact de_len _ | exact rf_len _ | (simp only [sg_len, cx_len, d_len, de_len, rf_len]) | rfl) (by first | exact sg_one _ | exact cx_one _ | exact d_one _ _ _ | exact de_one _ | exact rf_one _ | rfl) (by first | exact sg_len _ | exact cx_len _ | exact d_len _ _ _ | exact de_len _ | exact rf_len _ | (simp only [sg_len, cx_len, d_len, de_len, rf_len]) | rfl) ?_))
   | ((refine z_sti 6 rfl rfl ?_; refine o_storeb6 rfl tabOk rfl rfl rfl (by first | exact sg_len _ | exact cx_len _ | exact d_len _ _ _ | exact de_len _ | exact rf_len _ | (simp only [sg_len, cx_len, d_len, de_len, rf_len]) | rfl) (by first | exact sg_one _ | exact cx_one _ | exact d_one _ _ _ | exact de_one _ | exact rf_one _ | rfl) (by first | exact sg_len _ | exact cx_len _ | exact d_len _ _ _ | exact de_len _ | exact rf_len _ | (simp only [sg_len, cx_len, d_len, de_len, rf_len]) | rfl) ?_)))
   | (refine z_st1 rfl rfl ?_; first
   | refine o_store rfl tabOk rfl rfl rfl rfl rfl (by first | exact d_pc _ _ _ | exact de_k _ | exact de_s _ | exact de_a _ | exact d_k _ _ _ | exact d_n _ _ _ | rfl) (by first | rfl) ?_
   | ((refine z_sti 1 rfl rfl ?_; refine o_store1 rfl tabOk rfl rfl rfl rfl rfl (by first | exact d_pc _ _ _ | exact de_k _ | exact de_s _ | exact de_a _ | exact d_k _ _ _ | exact d_n _ _ _ | rfl) (by first | rfl) ?_))
   | ((refine z_sti 2 rfl rfl ?_; refine o_store2 rfl tabOk rfl rfl rfl rfl rfl (by first | exact d_pc _ _ _ | exact de_k _ | exact de_s _ | exact de_a _ | exact d_k _ _ _ | exact d_n _ _ _ | rfl) (by first | rfl) ?_))
   | ((refine z_sti 3 rfl rfl ?_; refine o_store3 rfl tabOk rfl rfl rfl rfl rfl (by first | exact d_pc _ _ _ | exact de_k _ | exact de_s _ | exact de_a _ | exact d_k _ _ _ | exact d_n _ _ _ | rfl) (by first | rfl) ?_))
   | ((refine z_sti 4 rfl rfl ?_; refine o_store4 rfl tabOk rfl rfl rfl rfl rfl (by first | exact d_pc _ _ _ | exact de_k _ | exact de_s _ | exact de_a _ | exact d_k _ _ _ | exact d_n _ _ _ | rfl) (by first | rfl) ?_))
   | ((refine z_sti 5 rfl rfl ?_; refine o_store5 rfl tabOk rfl rfl rfl rfl rfl (by first | exact d_pc _ _ _ | exact de_k _ | exact de_s _ | exact de_a _ | exact d_k _ _ _ | exact d_n _ _ _ | rfl) (by first | rfl) ?_))
   | ((refine z_sti 6 rfl rfl ?_; refine o_store6 rfl tabOk rfl rfl rfl rfl rfl (by first | exact d_pc _ _ _ | exact de_k _ | exact de_s _ | exact de_a _ | exact d_k _ _ _ | exact d_n _ _ _ | rfl) (by first | rfl) ?_))))
   | (refine z_iscall ?_; first
   | ((refine z_iscallf 9 ?_; refine o_fn rfl Tryd.func9 rfl rfl rfl (raise_fn _ _) (by decide) ?_)))
   | (refine z_ispick ?_; first
   | (refine o_pick1 rfl (by first | with_reducible rfl | with_reducible assumption | ((with_reducible refine decide_eq_true ?_); first | with_reducible rfl | with_reducible assumption | omega)) rfl (by decide) ?_)
   | (refine o_pick0 rfl (by first | with_reducible rfl | with_reducible assumption | ((with_reducible refine decide_eq_false ?_); first | with_reducible assumption | omega)) rfl (by decide) ?_)
   | (refine o_pick1 rfl (by first | (simp only [Bool.not_eq_true', decide_eq_false_iff_not]; omega) | (with_reducible assumption) | (rw [decide_eq_false] <;> (first | omega | with_reducible rfl)) | (rw [decide_eq_true] <;> (first | omega | with_reducible rfl)) | (simp; done) | (simp; omega)) rfl (by decide) ?_)
   | (refine o_pick0 rfl (by first | (simp only [Bool.not_eq_false', decide_eq_true_eq]; omega) | (with_reducible assumption) | (rw [decide_eq_false] <;> (first | omega | with_reducible rfl)) | (rw [decide_eq_true] <;> (first | omega | with_reducible rfl)) | (simp; done) | (simp; omega)) rfl (by decide) ?_))
   | (refine z_isix ?_; first
   | refine o_index0 tabOk rfl rfl rfl rfl (by omega) (by omega) (by decide) ?_
   | refine o_index1 tabOk rfl rfl rfl rfl (by omega) (by omega) (by decide) ?_
   | refine o_indexsk tabOk rfl rfl rfl rfl (by omega) (by omega) (by decide) ?_
   | refine o_indexs1 tabOk (by first | assumption) rfl rfl rfl rfl (by omega) (by omega) (by decide) ?_)
   | (refine z_isbi ?_; first
   | refine o_len tabOk rfl rfl (by decide) ?_
   | refine o_min rfl rfl (by decide) ?_
   | refine o_max rfl rfl (by decide) ?_)
   | refine o_move rfl (by decide) ?_
   | refine o_assign rfl (by decide) ?_
   | refine o_nil rfl (by decide) ?_
   | refine o_extract rfl rfl (by decide) ?_
   | refine o_not rfl (by decide) ?_
   | refine o_field0 tabOk rfl rfl rfl rfl rfl (by decide) ?_
   | refine o_field tabOk rfl rfl rfl rfl rfl (by decide) ?_
   | refine o_conv tabOk rfl rfl rfl (by decide) ?_))
  refine Hold.go ?_
  by_cases hlt : i < D.length ∧ i < 20
  · obtain ⟨d, hd⟩ : ∃ d, D[i]? = some d := ⟨D[i], List.getElem?_eq_getElem hlt.1⟩
    have hda := hok d (List.mem_of_getElem? hd)
    obtain ⟨⟨s', r'⟩, hz, hdo⟩ := does_all hre g d [cells g5 26 c.cs, old W] hda (Rds.cons _ hT)
    dsimp only at hz hdo
    repeat' (first
     | (refine s_is ?_; first
     | refine c_keep2o [30] (id := 6) mixed (by kernel_rfl) ?_
     | (refine s_isagain ?_; first
     | (exact c_again (i + 1, s', r') ⟨by dsimp only; omega, hz⟩ (by dsimp only; omega) ⟨rfl, rfl, rfl, rfl, rfl, rfl, trivial⟩ (fun w h => h)))
     | (refine s_isw ?_; first
     | refine c_seq ?_
     | refine c_block ?_
     | refine c_region ?_
     | refine c_mixed mixed (by kernel_rfl) ?_
     | refine c_skip ?_
     | refine c_ret ?_
     | refine c_exit ?_
     | (refine s_iscond ?_; first
     | (refine c_true rfl (by first | with_reducible rfl | with_reducible assumption | ((with_reducible refine decide_eq_true ?_); first | with_reducible rfl | with_reducible assumption | omega)) ?_)
     | (refine c_false rfl (by first | with_reducible rfl | with_reducible assumption | ((with_reducible refine decide_eq_false ?_); first | with_reducible assumption | omega)) ?_)
     | (refine c_true rfl (by first | (simp only [Bool.not_eq_true', decide_eq_false_iff_not]; omega) | (with_reducible assumption) | (rw [decide_eq_false] <;> (first | omega | with_reducible rfl)) | (rw [decide_eq_true] <;> (first | omega | with_reducible rfl)) | (simp; done) | (simp; omega)) ?_)
     | (refine c_false rfl (by first | (simp only [Bool.not_eq_false', decide_eq_true_eq]; omega) | (with_reducible assumption) | (rw [decide_eq_false] <;> (first | omega | with_reducible rfl)) | (rw [decide_eq_true] <;> (first | omega | with_reducible rfl)) | (simp; done) | (simp; omega)) ?_)
     | refine c_cond rfl (fun hc => ?_) (fun hc => ?_)
     | refine c_condb rfl (fun hc => ?_) (fun hc => ?_)))
     | refine x_then ?_
     | refine x_then_ret ?_
     | refine x_then_exit ?_
     | refine x_block _ ?_
     | refine x_block_ret _ ?_
     | refine x_block_exit _ ?_
     | refine x_block_past (by decide) ?_
     | refine z_tailm ?_)
     | (refine z_isg1 ?_; first
     | refine z_skipu (by decide) rfl rfl ?_
     | (refine z_want1 rfl rfl (by first | with_reducible rfl | with_reducible assumption | ((with_reducible refine decide_eq_true ?_); first | with_reducible rfl | with_reducible assumption | omega)) ?_)
     | (refine z_skip1 (by decide) rfl rfl (by first | with_reducible rfl | with_reducible assumption | ((with_reducible refine decide_eq_false ?_); first | with_reducible assumption | omega)) ?_)
     | (refine z_want1 rfl rfl (by first | (simp only [Bool.not_eq_true', decide_eq_false_iff_not]; omega) | (with_reducible assumption) | (rw [decide_eq_false] <;> (first | omega | with_reducible rfl)) | (rw [decide_eq_true] <;> (first | omega | with_reducible rfl)) | (simp; done) | (simp; omega)) ?_)
     | (refine z_skip1 (by decide) rfl rfl (by first | (simp only [Bool.not_eq_false', decide_eq_true_eq]; omega) | (with_reducible assumption) | (rw [decide_eq_false] <;> (first | omega | with_reducible rfl)) | (rw [decide_eq_true] <;> (first | omega | with_reducible rfl)) | (simp; done) | (simp; omega)) ?_)
     | refine z_guard1 (by decide) rfl rfl (fun hc => ?_) (fun hc => ?_)
     | refine z_guardb (by decide) rfl rfl (fun hc => ?_) (fun hc => ?_))
     | (refine z_isnil ?_; first
     | refine z_keep1 ?_
     | refine z_keep2 ?_
     | refine z_list ?_
     | refine z_mixed ?_
     | refine z_mono0 ?_
     | refine z_mono1 (by decide) fun g => ?_
     | refine z_mono2 (by decide) (by decide) fun g g' => ?_
     | refine z_mixedx ?_
     | refine z_quiet ?_)
     | (refine z_isop ?_; first
     | refine o_indexsn tabOk (hne (by omega)) rfl rfl rfl rfl (by omega) (by omega) (by decide) ?_
     | refine o_boxa rfl rfl (by decide) fun g => ?_
     | refine o_alloca (e := 30) (vs := Sg.zero.cs) rfl (by kernel_rfl) (by decide) fun g => ?_
     | refine o_alloca (e := 26) (vs := Cx.zero.cs) rfl (by kernel_rfl) (by decide) fun g => ?_
     | refine o_alloca (e := 40) (vs := dCs 0 0 Cx.zero) rfl (by kernel_rfl) (by decide) fun g => ?_
     | refine o_buildf (t := 40) (zs := dCs 0 0 Cx.zero) tabOk rfl rfl (by kernel_rfl) rfl (d_fill _ _ _) (by decide) ?_
     | refine o_build (t := 26) (v := .agg Cx.zero.cs.toArray) rfl (fun _ => by kernel_rfl) (by decide) ?_
     | (refine z_isbin ?_; first
     | refine o_eqa cmp40 rfl rfl (d_typed _ _ _) (d_typed _ _ _) (by decide) ?_
     | refine o_eqa cmp26 rfl rfl (cx_typed _) (cx_typed _) (by decide) ?_
     | (refine z_isb .add ?_; first
     | refine o_add rfl rfl (by omega) (by omega) (by decide) ?_
     | refine o_addw rfl rfl (by decide) ?_)
     | (refine z_isb .eql ?_; first
     | refine o_eq rfl rfl (by decide) ?_
     | refine o_beq tabOk rfl rfl rfl (by decide) ?_
     | refine o_peq tabOk rfl rfl (by decide) ?_)
     | (refine z_isb .lss ?_; first
     | refine o_lt rfl rfl (by decide) ?_))
     | (refine z_isload ?_; first
     | refine o_loadwk (by decide) tabOk rfl rfl rfl (List.mem_cons_of_mem _ List.mem_cons_self) (by first | exact sg_len _ | exact cx_len _ | exact d_len _ _ _ | exact de_len _ | exact rf_len _ | (simp only [sg_len, cx_len, d_len, de_len, rf_len]) | rfl) (by decide) ?_
     | (refine o_loadsw tabOk (Rds.cons _ hrd) rfl rfl rfl (es := d.cs) (de_len _) (by rw [de_len]; decide) (de_at D d hd) (by decide) ?_)
     | refine o_loadp tabOk rfl rfl rfl 1 rfl (cx_len _) (de_c _) (by decide) ?_
     | refine o_loadp tabOk rfl rfl rfl 3 rfl (cx_len _) (de_c _) (by decide) ?_
     | (refine z_ld1 tabOk rfl rfl ?_; first
     | refine o_loadm tabOk rfl rfl rfl (by repeat' (first | exact List.mem_cons_self | apply List.mem_cons_of_mem)) (by first | exact d_pc _ _ _ | exact de_k _ | exact de_s _ | exact de_a _ | exact d_k _ _ _ | exact d_n _ _ _ | rfl) (by decide) ?_
     | refine o_loads tabOk (by first | assumption | exact Rds.cons _ (by assumption) | exact Rds.cons _ (Rds.cons _ (by assumption)) | exact own_rds 0 rfl | exact own_rds 1 rfl | exact own_rds 2 rfl) rfl rfl rfl (by first | exact d_pc _ _ _ | exact de_k _ | exact de_s _ | exact de_a _ | exact d_k _ _ _ | exact d_n _ _ _ | rfl) (by decide) ?_)
     | (refine z_ldw tabOk rfl rfl ?_; first
     | refine o_loadwm tabOk rfl rfl rfl (by repeat' (first | exact List.mem_cons_self | apply List.mem_cons_of_mem)) (by first | exact sg_len _ | exact cx_len _ | exact d_len _ _ _ | exact de_len _ | exact rf_len _ | (simp only [sg_len, cx_len, d_len, de_len, rf_len]) | rfl) (by decide) ?_))
     | (refine z_isstore ?_; first
     | refine o_storebk 0 tabOk rfl rfl rfl rfl (by first | exact sg_len _ | exact cx_len _ | exact d_len _ _ _ | exact de_len _ | exact rf_len _ | (simp only [sg_len, cx_len, d_len, de_len, rf_len]) | rfl) (by first | exact sg_one _ | exact cx_one _ | exact d_one _ _ _ | exact de_one _ | exact rf_one _ | rfl) (by first | exact sg_len _ | exact cx_len _ | exact d_len _ _ _ | exact de_len _ | exact rf_len _ | (simp only [sg_len, cx_len, d_len, de_len, rf_len]) | rfl) ?_
     | refine o_storebk 1 tabOk rfl rfl rfl rfl (by first | exact sg_len _ | exact cx_len _ | exact d_len _ _ _ | exact de_len _ | exact rf_len _ | (simp only [sg_len, cx_len, d_len, de_len, rf_len]) | rfl) (by first | exact sg_one _ | exact cx_one _ | exact d_one _ _ _ | exact de_one _ | exact rf_one _ | rfl) (by first | exact sg_len _ | exact cx_len _ | exact d_len _ _ _ | exact de_len _ | exact rf_len _ | (simp only [sg_len, cx_len, d_len, de_len, rf_len]) | rfl) ?_
     | (refine z_stw rfl ?_; first
     | ((refine z_sti 0 rfl rfl ?_; refine o_storeb0 rfl tabOk rfl rfl rfl (by first | exact sg_len _ | exact cx_len _ | exact d_len _ _ _ | exact de_len _ | exact rf_len _ | (simp only [sg_len, cx_len, d_len, de_len, rf_len]) | rfl) (by first | exact sg_one _ | exact cx_one _ | exact d_one _ _ _ | exact de_one _ | exact rf_one _ | rfl) (by first | exact sg_len _ | exact cx_len _ | exact d_len _ _ _ | exact de_len _ | exact rf_len _ | (simp only [sg_len, cx_len, d_len, de_len, rf_len]) | rfl) ?_))
     | ((refine z_sti 1 rfl rfl ?_; refine o_storeb1 rfl tabOk rfl rfl rfl (by first | exact sg_len _ | exact cx_len _ | exact d_len _ _ _ | exact de_len _ | exact rf_len _ | (simp only [sg_len, cx_len, d_len, de_len, rf_len]) | rfl) (by first | exact sg_one _ | exact cx_one _ | exact d_one _ _ _ | exact de_one _ | exact rf_one _ | rfl) (by first | exact sg_len _ | exact cx_len _ | exact d_len _ _ _ | exact de_len _ | exact rf_len _ | (simp only [sg_len, cx_len, d_len, de_len, rf_len]) | rfl) ?_))
     | ((refine z_sti 2 rfl rfl ?_; refine o_storeb2 rfl tabOk rfl rfl rfl (by first | exact sg_len _ | exact cx_len _ | exact d_len _ _ _ | exact de_len _ | exact rf_len _ | (simp only [sg_len, cx_len, d_len, de_len, rf_len]) | rfl) (by first | exact sg_one _ | exact cx_one _ | exact d_one _ _ _ | exact de_one _ | exact rf_one _ | rfl) (by first | exact sg_len _ | exact cx_len _ | exact d_len _ _ _ | exact de_len _ | exact rf_len _ | (simp only [sg_len, cx_len, d_len, de_len, rf_len]) | rfl) ?_))
     | ((refine z_sti 3 rfl rfl ?_; refine o_storeb3 rfl tabOk rfl rfl rfl (by first | exact sg_len _ | exact cx_len _ | exact d_len _ _ _ | exact de_len _ | exact rf_len _ | (simp only [sg_len, cx_len, d_len, de_len, rf_len]) | rfl) (by first | exact sg_one _ | exact cx_one _ | exact d_one _ _ _ | exact de_one _ | exact rf_one _ | rfl) (by first | exact sg_len _ | exact cx_len _ | exact d_len _ _ _ | exact de_len _ | exact rf_len _ | (simp only [sg_len, cx_len, d_len, de_len, rf_len]) | rfl) ?_))
     | ((refine z_sti 4 rfl rfl ?_; refine o_storeb4 rfl tabOk rfl rfl rfl (by first | exact sg_len _ | exact cx_len _ | exact d_len _ _ _ | exact de_len _ | exact rf_len _ | (simp only [sg_len, cx_len, d_len, de_len, rf_len]) | rfl) (by first | exact sg_one _ | exact cx_one _ | exact d_one _ _ _ | exact de_one _ | exact rf_one _ | rfl) (by first | exact sg_len _ | exact cx_len _ | exact d_len _ _ _ | exact de_len _ | exact rf_len _ | (simp only [sg_len, cx_len, d_len, de_len, rf_len]) | rfl) ?_))
     | ((refine z_sti 5 rfl rfl ?_; refine o_storeb5 rfl tabOk rfl rfl rfl (by first | exact sg_len _ | exact cx_len _ | exact d_len _ _ _ | exact de_len _ | exact rf_len _ | (simp only [sg_len, cx_len, d_len, de_len, rf_len]) | rfl) (by first | exact sg_one _ | exact cx_one _ | exact d_one _ _ _ | exact de_one _ | exact rf_one _ | rfl) (by first | exact sg_len _ | exact cx_len _ | exact d_len _ _ _ | exact de_len _ | exact rf_len _ | (simp only [sg_len, cx_len, d_len, de_len, rf_len]) | rfl) ?_))
     | ((refine z_sti 6 rfl rfl ?_; refine o_storeb6 rfl tabOk rfl rfl rfl (by first | exact sg_len _ | exact cx_len _ | exact d_len _ _ _ | exact de_len _ | exact rf_len _ | (simp only [sg_len, cx_len, d_len, de_len, rf_len]) | rfl) (by first | exact sg_one _ | exact cx_one _ | exact d_one _ _ _ | exact de_one _ | exact rf_one _ | rfl) (by first | exact sg_len _ | exact cx_len _ | exact d_len _ _ _ | exact de_len _ | exact rf_len _ | (simp only [sg_len, cx_len, d_len, de_len, rf_len]) | rfl) ?_)))
     | (refine z_st1 rfl rfl ?_; first
     | refine o_store rfl tabOk rfl rfl rfl rfl rfl (by first | exact d_pc _ _ _ | exact de_k _ | exact de_s _ | exact de_a _ | exact d_k _ _ _ | exact d_n _ _ _ | rfl) (by first | rfl) ?_
     | ((refine z_sti 1 rfl rfl ?_; refine o_store1 rfl tabOk rfl rfl rfl rfl rfl (by first | exact d_pc _ _ _ | exact de_k _ | exact de_s _ | exact de_a _ | exact d_k _ _ _ | exact d_n _ _ _ | rfl) (by first | rfl) ?_))
     | ((refine z_sti 2 rfl rfl ?_; refine o_store2 rfl tabOk rfl rfl rfl rfl rfl (by first | exact d_pc _ _ _ | exact de_k _ | exact de_s _ | exact de_a _ | exact d_k _ _ _ | exact d_n _ _ _ | rfl) (by first | rfl) ?_))
     | ((refine z_sti 3 rfl rfl ?_; refine o_store3 rfl tabOk rfl rfl rfl rfl rfl (by first | exact d_pc _ _ _ | exact de_k _ | exact de_s _ | exact de_a _ | exact d_k _ _ _ | exact d_n _ _ _ | rfl) (by first | rfl) ?_))
     | ((refine z_sti 4 rfl rfl ?_; refine o_store4 rfl tabOk rfl rfl rfl rfl rfl (by first | exact d_pc _ _ _ | exact de_k _ | exact de_s _ | exact de_a _ | exact d_k _ _ _ | exact d_n _ _ _ | rfl) (by first | rfl) ?_))
     | ((refine z_sti 5 rfl rfl ?_; refine o_store5 rfl tabOk rfl rfl rfl rfl rfl (by first | exact d_pc _ _ _ | exact de_k _ | exact de_s _ | exact de_a _ | exact d_k _ _ _ | exact d_n _ _ _ | rfl) (by first | rfl) ?_))
     | ((refine z_sti 6 rfl rfl ?_; refine o_store6 rfl tabOk rfl rfl rfl rfl rfl (by first | exact d_pc _ _ _ | exact de_k _ | exact de_s _ | exact de_a _ | exact d_k _ _ _ | exact d_n _ _ _ | rfl) (by first | rfl) ?_))))
     | (refine z_iscall ?_; first
     | ((refine z_iscallf 6 ?_; refine o_callka Tryd.func6 rfl rfl rfl hdo (by decide) ?_))
     | ((refine z_iscallf 9 ?_; refine o_fn rfl Tryd.func9 rfl rfl rfl (raise_fn _ _) (by decide) ?_)))
     | (refine z_ispick ?_; first
     | (refine o_pick1 rfl (by first | with_reducible rfl | with_reducible assumption | ((with_reducible refine decide_eq_true ?_); first | with_reducible rfl | with_reducible assumption | omega)) rfl (by decide) ?_)
     | (refine o_pick0 rfl (by first | with_reducible rfl | with_reducible assumption | ((with_reducible refine decide_eq_false ?_); first | with_reducible assumption | omega)) rfl (by decide) ?_)
     | (refine o_pick1 rfl (by first | (simp only [Bool.not_eq_true', decide_eq_false_iff_not]; omega) | (with_reducible assumption) | (rw [decide_eq_false] <;> (first | omega | with_reducible rfl)) | (rw [decide_eq_true] <;> (first | omega | with_reducible rfl)) | (simp; done) | (simp; omega)) rfl (by decide) ?_)
     | (refine o_pick0 rfl (by first | (simp only [Bool.not_eq_false', decide_eq_true_eq]; omega) | (with_reducible assumption) | (rw [decide_eq_false] <;> (first | omega | with_reducible rfl)) | (rw [decide_eq_true] <;> (first | omega | with_reducible rfl)) | (simp; done) | (simp; omega)) rfl (by decide) ?_))
     | (refine z_isix ?_; first
     | refine o_index0 tabOk rfl rfl rfl rfl (by omega) (by omega) (by decide) ?_
     | refine o_index1 tabOk rfl rfl rfl rfl (by omega) (by omega) (by decide) ?_
     | refine o_indexsk tabOk rfl rfl rfl rfl (by omega) (by omega) (by decide) ?_
     | refine o_indexs1 tabOk (by first | assumption) rfl rfl rfl rfl (by omega) (by omega) (by decide) ?_)
     | (refine z_isbi ?_; first
     | refine o_len tabOk rfl rfl (by decide) ?_
     | refine o_min rfl rfl (by decide) ?_
     | refine o_max rfl rfl (by decide) ?_)
     | refine o_move rfl (by decide) ?_
     | refine o_assign rfl (by decide) ?_
     | refine o_nil rfl (by decide) ?_
     | refine o_extract rfl rfl (by decide) ?_
     | refine o_not rfl (by decide) ?_
     | refine o_field0 tabOk rfl rfl rfl rfl rfl (by decide) ?_
     | refine o_field tabOk rfl rfl rfl rfl rfl (by decide) ?_
     | refine o_conv tabOk rfl rfl rfl (by decide) ?_))
  · have hnx := kill_next hre c
    have hz := next_z (re_raise hre 1)
    have e5 := d_same 1 1 c
    have e1 : decide ((if (1 : Int) ≤ 1 ∧ (1 : Int) ≤ 8 then (0 : Int) else 1) = 0) = true := by decide
    have hnc : ∀ fr : List Chunk, Rds fr (some ⟨0, 0, none⟩) deB → Does Tryd.prog 7 [.agg (s.raise 1).cs.toArray, .agg c.cs.toArray] fr (fun _ : Unit => True) (fun _ => .tuple #[.agg ({ s.raise 1 with w := 0 } : Sg).cs.toArray, .agg (dCs 1 1 c).toArray]) (fun _ => fr) := fun fr hf => by
      have := next_c (s.raise 1) c fr hf hz
      rw [hnx] at this
      exact this
    repeat' (first
     | (refine s_is ?_; first
     | (refine s_isret ?_; first
     | exact f_r1 rfl (res_t rfl) () trivial (by first | rfl | simp only [e1, d_same]) (fun w h => ((h.sel 8 [7, 0, 1, 2, 3, 4, 5, 6] (by decide)).mask [true, false, false, false, false, false, false, false])))
     | (refine s_isw ?_; first
     | refine c_seq ?_
     | refine c_block ?_
     | refine c_region ?_
     | refine c_mixed mixed (by kernel_rfl) ?_
     | refine c_skip ?_
     | refine c_ret ?_
     | refine c_exit ?_
     | (refine s_iscond ?_; first
     | (refine c_true rfl (by first | with_reducible rfl | with_reducible assumption | ((with_reducible refine decide_eq_true ?_); first | with_reducible rfl | with_reducible assumption | omega)) ?_)
     | (refine c_false rfl (by first | with_reducible rfl | with_reducible assumption | ((with_reducible refine decide_eq_false ?_); first | with_reducible assumption | omega)) ?_)
     | (refine c_true rfl (by first | (simp only [Bool.not_eq_true', decide_eq_false_iff_not]; omega) | (with_reducible assumption) | (rw [decide_eq_false] <;> (first | omega | with_reducible rfl)) | (rw [decide_eq_true] <;> (first | omega | with_reducible rfl)) | (simp; done) | (simp; omega)) ?_)
     | (refine c_false rfl (by first | (simp only [Bool.not_eq_false', decide_eq_true_eq]; omega) | (with_reducible assumption) | (rw [decide_eq_false] <;> (first | omega | with_reducible rfl)) | (rw [decide_eq_true] <;> (first | omega | with_reducible rfl)) | (simp; done) | (simp; omega)) ?_)
     | refine c_cond rfl (fun hc => ?_) (fun hc => ?_)
     | refine c_condb rfl (fun hc => ?_) (fun hc => ?_)))
     | refine x_then ?_
     | refine x_then_ret ?_
     | refine x_then_exit ?_
     | refine x_block _ ?_
     | refine x_block_ret _ ?_
     | refine x_block_exit _ ?_
     | refine x_block_past (by decide) ?_
     | refine z_tailm ?_)
     | (refine z_isg1 ?_; first
     | refine z_skipu (by decide) rfl rfl ?_
     | (refine z_want1 rfl rfl (by first | with_reducible rfl | with_reducible assumption | ((with_reducible refine decide_eq_true ?_); first | with_reducible rfl | with_reducible assumption | omega)) ?_)
     | (refine z_skip1 (by decide) rfl rfl (by first | with_reducible rfl | with_reducible assumption | ((with_reducible refine decide_eq_false ?_); first | with_reducible assumption | omega)) ?_)
     | (refine z_want1 rfl rfl (by first | (simp only [Bool.not_eq_true', decide_eq_false_iff_not]; omega) | (with_reducible assumption) | (rw [decide_eq_false] <;> (first | omega | with_reducible rfl)) | (rw [decide_eq_true] <;> (first | omega | with_reducible rfl)) | (simp; done) | (simp; omega)) ?_)
     | (refine z_skip1 (by decide) rfl rfl (by first | (simp only [Bool.not_eq_false', decide_eq_true_eq]; omega) | (with_reducible assumption) | (rw [decide_eq_false] <;> (first | omega | with_reducible rfl)) | (rw [decide_eq_true] <;> (first | omega | with_reducible rfl)) | (simp; done) | (simp; omega)) ?_)
     | refine z_guard1 (by decide) rfl rfl (fun hc => ?_) (fun hc => ?_)
     | refine z_guardb (by decide) rfl rfl (fun hc => ?_) (fun hc => ?_))
     | (refine z_isnil ?_; first
     | refine z_keep1 ?_
     | refine z_keep2 ?_
     | refine z_list ?_
     | refine z_mixed ?_
     | refine z_mono0 ?_
     | refine z_mono1 (by decide) fun g => ?_
     | refine z_mono2 (by decide) (by decide) fun g g' => ?_
     | refine z_mixedx ?_
     | refine z_quiet ?_)
     | (refine z_isop ?_; first
     | refine o_boxa rfl rfl (by decide) fun g => ?_
     | refine o_alloca (e := 30) (vs := Sg.zero.cs) rfl (by kernel_rfl) (by decide) fun g => ?_
     | refine o_alloca (e := 26) (vs := Cx.zero.cs) rfl (by kernel_rfl) (by decide) fun g => ?_
     | refine o_alloca (e := 40) (vs := dCs 0 0 Cx.zero) rfl (by kernel_rfl) (by decide) fun g => ?_
     | refine o_buildf (t := 40) (zs := dCs 0 0 Cx.zero) tabOk rfl rfl (by kernel_rfl) rfl (d_fill _ _ _) (by decide) ?_
     | refine o_build (t := 26) (v := .agg Cx.zero.cs.toArray) rfl (fun _ => by kernel_rfl) (by decide) ?_
     | (refine z_isbin ?_; first
     | refine o_eqa cmp40 rfl rfl (d_typed _ _ _) (d_typed _ _ _) (by decide) ?_
     | refine o_eqa cmp26 rfl rfl (cx_typed _) (cx_typed _) (by decide) ?_
     | (refine z_isb .add ?_; first
     | refine o_add rfl rfl (by omega) (by omega) (by decide) ?_
     | refine o_addw rfl rfl (by decide) ?_)
     | (refine z_isb .eql ?_; first
     | refine o_eq rfl rfl (by decide) ?_
     | refine o_beq tabOk rfl rfl rfl (by decide) ?_
     | refine o_peq tabOk rfl rfl (by decide) ?_)
     | (refine z_isb .lss ?_; first
     | refine o_lt rfl rfl (by decide) ?_))
     | (refine z_isload ?_; first
     | refine o_loadp tabOk rfl rfl rfl 1 rfl (cx_len _) (de_c _) (by decide) ?_
     | refine o_loadp tabOk rfl rfl rfl 3 rfl (cx_len _) (de_c _) (by decide) ?_
     | (refine z_ld1 tabOk rfl rfl ?_; first
     | refine o_loadm tabOk rfl rfl rfl (by repeat' (first | exact List.mem_cons_self | apply List.mem_cons_of_mem)) (by first | exact d_pc _ _ _ | exact de_k _ | exact de_s _ | exact de_a _ | exact d_k _ _ _ | exact d_n _ _ _ | rfl) (by decide) ?_
     | refine o_loads tabOk (by first | assumption | exact Rds.cons _ (by assumption) | exact Rds.cons _ (Rds.cons _ (by assumption)) | exact own_rds 0 rfl | exact own_rds 1 rfl | exact own_rds 2 rfl) rfl rfl rfl (by first | exact d_pc _ _ _ | exact de_k _ | exact de_s _ | exact de_a _ | exact d_k _ _ _ | exact d_n _ _ _ | rfl) (by decide) ?_)
     | (refine z_ldw tabOk rfl rfl ?_; first
     | refine o_loadwm tabOk rfl rfl rfl (by repeat' (first | exact List.mem_cons_self | apply List.mem_cons_of_mem)) (by first | exact sg_len _ | exact cx_len _ | exact d_len _ _ _ | exact de_len _ | exact rf_len _ | (simp only [sg_len, cx_len, d_len, de_len, rf_len]) | rfl) (by decide) ?_))
     | (refine z_isstore ?_; first
     | refine o_storebk 0 tabOk rfl rfl rfl rfl (by first | exact sg_len _ | exact cx_len _ | exact d_len _ _ _ | exact de_len _ | exact rf_len _ | (simp only [sg_len, cx_len, d_len, de_len, rf_len]) | rfl) (by first | exact sg_one _ | exact cx_one _ | exact d_one _ _ _ | exact de_one _ | exact rf_one _ | rfl) (by first | exact sg_len _ | exact cx_len _ | exact d_len _ _ _ | exact de_len _ | exact rf_len _ | (simp only [sg_len, cx_len, d_len, de_len, rf_len]) | rfl) ?_
     | refine o_storebk 1 tabOk rfl rfl rfl rfl (by first | exact sg_len _ | exact cx_len _ | exact d_len _ _ _ | exact de_len _ | exact rf_len _ | (simp only [sg_len, cx_len, d_len, de_len, rf_len]) | rfl) (by first | exact sg_one _ | exact cx_one _ | exact d_one _ _ _ | exact de_one _ | exact rf_one _ | rfl) (by first | exact sg_len _ | exact cx_len _ | exact d_len _ _ _ | exact de_len _ | exact rf_len _ | (simp only [sg_len, cx_len, d_len, de_len, rf_len]) | rfl) ?_
     | (refine z_stw rfl ?_; first
     | ((refine z_sti 0 rfl rfl ?_; refine o_storeb0 rfl tabOk rfl rfl rfl (by first | exact sg_len _ | exact cx_len _ | exact d_len _ _ _ | exact de_len _ | exact rf_len _ | (simp only [sg_len, cx_len, d_len, de_len, rf_len]) | rfl) (by first | exact sg_one _ | exact cx_one _ | exact d_one _ _ _ | exact de_one _ | exact rf_one _ | rfl) (by first | exact sg_len _ | exact cx_len _ | exact d_len _ _ _ | exact de_len _ | exact rf_len _ | (simp only [sg_len, cx_len, d_len, de_len, rf_len]) | rfl) ?_))
     | ((refine z_sti 1 rfl rfl ?_; refine o_storeb1 rfl tabOk rfl rfl rfl (by first | exact sg_len _ | exact cx_len _ | exact d_len _ _ _ | exact de_len _ | exact rf_len _ | (simp only [sg_len, cx_len, d_len, de_len, rf_len]) | rfl) (by first | exact sg_one _ | exact cx_one _ | exact d_one _ _ _ | exact de_one _ | exact rf_one _ | rfl) (by first | exact sg_len _ | exact cx_len _ | exact d_len _ _ _ | exact de_len _ | exact rf_len _ | (simp only [sg_len, cx_len, d_len, de_len, rf_len]) | rfl) ?_))
     | ((refine z_sti 2 rfl rfl ?_; refine o_storeb2 rfl tabOk rfl rfl rfl (by first | exact sg_len _ | exact cx_len _ | exact d_len _ _ _ | exact de_len _ | exact rf_len _ | (simp only [sg_len, cx_len, d_len, de_len, rf_len]) | rfl) (by first | exact sg_one _ | exact cx_one _ | exact d_one _ _ _ | exact de_one _ | exact rf_one _ | rfl) (by first | exact sg_len _ | exact cx_len _ | exact d_len _ _ _ | exact de_len _ | exact rf_len _ | (simp only [sg_len, cx_len, d_len, de_len, rf_len]) | rfl) ?_))
     | ((refine z_sti 3 rfl rfl ?_; refine o_storeb3 rfl tabOk rfl rfl rfl (by first | exact sg_len _ | exact cx_len _ | exact d_len _ _ _ | exact de_len _ | exact rf_len _ | (simp only [sg_len, cx_len, d_len, de_len, rf_len]) | rfl) (by first | exact sg_one _ | exact cx_one _ | exact d_one _ _ _ | exact de_one _ | exact rf_one _ | rfl) (by first | exact sg_len _ | exact cx_len _ | exact d_len _ _ _ | exact de_len _ | exact rf_len _ | (simp only [sg_len, cx_len, d_len, de_len, rf_len]) | rfl) ?_))
     | ((refine z_sti 4 rfl rfl ?_; refine o_storeb4 rfl tabOk rfl rfl rfl (by first | exact sg_len _ | exact cx_len _ | exact d_len _ _ _ | exact de_len _ | exact rf_len _ | (simp only [sg_len, cx_len, d_len, de_len, rf_len]) | rfl) (by first | exact sg_one _ | exact cx_one _ | exact d_one _ _ _ | exact de_one _ | exact rf_one _ | rfl) (by first | exact sg_len _ | exact cx_len _ | exact d_len _ _ _ | exact de_len _ | exact rf_len _ | (simp only [sg_len, cx_len, d_len, de_len, rf_len]) | rfl) ?_))
     | ((refine z_sti 5 rfl rfl ?_; refine o_storeb5 rfl tabOk rfl rfl rfl (by first | exact sg_len _ | exact cx_len _ | exact d_len _ _ _ | exact de_len _ | exact rf_len _ | (simp only [sg_len, cx_len, d_len, de_len, rf_len]) | rfl) (by first | exact sg_one _ | exact cx_one _ | exact d_one _ _ _ | exact de_one _ | exact rf_one _ | rfl) (by first | exact sg_len _ | exact cx_len _ | exact d_len _ _ _ | exact de_len _ | exact rf_len _ | (simp only [sg_len, cx_len, d_len, de_len, rf_len]) | rfl) ?_))
     | ((refine z_sti 6 rfl rfl ?_; refine o_storeb6 rfl tabOk rfl rfl rfl (by first | exact sg_len _ | exact cx_len _ | exact d_len _ _ _ | exact de_len _ | exact rf_len _ | (simp only [sg_len, cx_len, d_len, de_len, rf_len]) | rfl) (by first | exact sg_one _ | exact cx_one _ | exact d_one _ _ _ | exact de_one _ | exact rf_one _ | rfl) (by first | exact sg_len _ | exact cx_len _ | exact d_len _ _ _ | exact de_len _ | exact rf_len _ | (simp only [sg_len, cx_len, d_len, de_len, rf_len]) | rfl) ?_)))
     | (refine z_st1 rfl rfl ?_; first
     | refine o_store rfl tabOk rfl rfl rfl rfl rfl (by first | exact d_pc _ _ _ | exact de_k _ | exact de_s _ | exact de_a _ | exact d_k _ _ _ | exact d_n _ _ _ | rfl) (by first | rfl) ?_
     | ((refine z_sti 1 rfl rfl ?_; refine o_store1 rfl tabOk rfl rfl rfl rfl rfl (by first | exact d_pc _ _ _ | exact de_k _ | exact de_s _ | exact de_a _ | exact d_k _ _ _ | exact d_n _ _ _ | rfl) (by first | rfl) ?_))
     | ((refine z_sti 2 rfl rfl ?_; refine o_store2 rfl tabOk rfl rfl rfl rfl rfl (by first | exact d_pc _ _ _ | exact de_k _ | exact de_s _ | exact de_a _ | exact d_k _ _ _ | exact d_n _ _ _ | rfl) (by first | rfl) ?_))
     | ((refine z_sti 3 rfl rfl ?_; refine o_store3 rfl tabOk rfl rfl rfl rfl rfl (by first | exact d_pc _ _ _ | exact de_k _ | exact de_s _ | exact de_a _ | exact d_k _ _ _ | exact d_n _ _ _ | rfl) (by first | rfl) ?_))
     | ((refine z_sti 4 rfl rfl ?_; refine o_store4 rfl tabOk rfl rfl rfl rfl rfl (by first | exact d_pc _ _ _ | exact de_k _ | exact de_s _ | exact de_a _ | exact d_k _ _ _ | exact d_n _ _ _ | rfl) (by first | rfl) ?_))
     | ((refine z_sti 5 rfl rfl ?_; refine o_store5 rfl tabOk rfl rfl rfl rfl rfl (by first | exact d_pc _ _ _ | exact de_k _ | exact de_s _ | exact de_a _ | exact d_k _ _ _ | exact d_n _ _ _ | rfl) (by first | rfl) ?_))
     | ((refine z_sti 6 rfl rfl ?_; refine o_store6 rfl tabOk rfl rfl rfl rfl rfl (by first | exact d_pc _ _ _ | exact de_k _ | exact de_s _ | exact de_a _ | exact d_k _ _ _ | exact d_n _ _ _ | rfl) (by first | rfl) ?_))))
     | (refine z_iscall ?_; first
     | ((refine z_iscallf 12 ?_; refine o_fn rfl Tryd.func12 rfl rfl rfl (set_no s 1 a ha (by omega)) (by decide) ?_))
     | ((refine z_iscallf 7 ?_; refine o_calla Tryd.func7 rfl rfl rfl (hnc _ (by repeat (first | exact hT | apply Rds.cons))) (by decide) fun _ _ => ?_))
     | ((refine z_iscallf 8 ?_; refine o_calla Tryd.func8 rfl rfl rfl (awake_c _ (by repeat (first | exact hT | apply Rds.cons))) (by decide) fun _ _ => ?_))
     | ((refine z_iscallf 9 ?_; refine o_fn rfl Tryd.func9 rfl rfl rfl (raise_fn _ _) (by decide) ?_)))
     | (refine z_ispick ?_; first
     | (refine o_pick1 rfl (by first | with_reducible rfl | with_reducible assumption | ((with_reducible refine decide_eq_true ?_); first | with_reducible rfl | with_reducible assumption | omega)) rfl (by decide) ?_)
     | (refine o_pick0 rfl (by first | with_reducible rfl | with_reducible assumption | ((with_reducible refine decide_eq_false ?_); first | with_reducible assumption | omega)) rfl (by decide) ?_)
     | (refine o_pick1 rfl (by first | (simp only [Bool.not_eq_true', decide_eq_false_iff_not]; omega) | (with_reducible assumption) | (rw [decide_eq_false] <;> (first | omega | with_reducible rfl)) | (rw [decide_eq_true] <;> (first | omega | with_reducible rfl)) | (simp; done) | (simp; omega)) rfl (by decide) ?_)
     | (refine o_pick0 rfl (by first | (simp only [Bool.not_eq_false', decide_eq_true_eq]; omega) | (with_reducible assumption) | (rw [decide_eq_false] <;> (first | omega | with_reducible rfl)) | (rw [decide_eq_true] <;> (first | omega | with_reducible rfl)) | (simp; done) | (simp; omega)) rfl (by decide) ?_))
     | (refine z_isix ?_; first
     | refine o_index0 tabOk rfl rfl rfl rfl (by omega) (by omega) (by decide) ?_
     | refine o_index1 tabOk rfl rfl rfl rfl (by omega) (by omega) (by decide) ?_
     | refine o_indexsk tabOk rfl rfl rfl rfl (by omega) (by omega) (by decide) ?_
     | refine o_indexs1 tabOk (by first | assumption) rfl rfl rfl rfl (by omega) (by omega) (by decide) ?_)
     | (refine z_isbi ?_; first
     | refine o_len tabOk rfl rfl (by decide) ?_
     | refine o_min rfl rfl (by decide) ?_
     | refine o_max rfl rfl (by decide) ?_)
     | refine o_move rfl (by decide) ?_
     | refine o_assign rfl (by decide) ?_
     | refine o_nil rfl (by decide) ?_
     | refine o_extract rfl rfl (by decide) ?_
     | refine o_not rfl (by decide) ?_
     | refine o_field0 tabOk rfl rfl rfl rfl rfl (by decide) ?_
     | refine o_field tabOk rfl rfl rfl rfl rfl (by decide) ?_
     | refine o_conv tabOk rfl rfl rfl (by decide) ?_))
end Go.Proofs.YtjejnlfbonpfaaaDoor
