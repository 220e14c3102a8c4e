/-
What a program does next.
-/
import Derived.Test.YtjejnlfbonpfaaaDoorSig2
namespace Go.Proofs.YtjejnlfbonpfaaaDoor
set_option linter.unusedVariables false
set_option linter.unusedSimpArgs false
open Eng
/-- Without the lowest signal. -/
def Sg.low (s : Sg) : Sg := { s with w := bitv .andNot .u16 s.w (shlv .u16 1 (tz s.w)) }
def Sg.next (s : Sg) (c : Cx) : Sg × Int × Int × Cx :=
  if s.waits 1 then ({ s with w := 0 }, 1, 1, c)
  else if s.b = false ∧ s.w ≠ 0 then
    if s.h (tz s.w).toNat ≠ 0 then ({ s.low with b := true, c := c }, 2, tz s.w, { c with pc := s.h (tz s.w).toNat, r := upd c.r 1 (IntKind.u32.wrap (tz s.w)) })
    else if tz s.w ≠ 8 then (s.low, 1, tz s.w, c)
    else (s.low, 0, 0, c)
  else (s, 0, 0, c)
attribute [local irreducible] Eng.Hold Eng.Z Eng.S Eng.cells Eng.old Eng.own Sg.cs Cx.cs hsCs deB deT tzi dCs tz Sg.waits
set_option maxHeartbeats 8000000 in
theorem next_c (s : Sg) (c : Cx) (fr : List Chunk) (hT : Rds fr (some ⟨0, 0, none⟩) deB) (hz : s.w ≠ 0 → 1 ≤ tz s.w ∧ tz s.w ≤ 8 ∧ (tz s.w = 8 → s.low.w = 0)) :
    Does Tryd.prog 7 [.agg s.cs.toArray, .agg c.cs.toArray] fr (fun _ : Unit => True) (fun _ => .tuple #[.agg (s.next c).1.cs.toArray, .agg (dCs (s.next c).2.1 (s.next c).2.2.1 (s.next c).2.2.2).toArray]) (fun _ => fr) := by
  intro w hw
  refine f_enter Tryd.func7 rfl Tryd.ntmps7 rfl hw ?_
  rcases Bool.eq_false_or_eq_true (s.waits 1) with e0 | e0
  · have hn : s.next c = ({ s with w := 0 }, 1, 1, c) := by simp [Sg.next, e0]
    rw [hn]
    clear hz hn
    repeat' (first
     | ((refine s_sel 4 [1, 0, 2, 3] (by decide) ?_; refine c_keep2 (id := 3) mixed (by kernel_rfl) ?_))
     | (refine s_is ?_; first
     | (refine s_isret ?_; first
     | exact f_r2 rfl (res_c tabOk rfl rfl rfl 0 rfl (sg_len _)) (res_c tabOk rfl rfl rfl 1 rfl (d_len _ _ _)) () trivial rfl (fun w h => h.sub (List.sublist_append_right [_, _, _, _] fr)))
     | (refine s_isw ?_; first
     | refine c_seq ?_
     | refine c_block ?_
     | refine c_region ?_
     | refine c_mixed mixed (by kernel_rfl) ?_
     | refine c_skip ?_
     | refine c_ret ?_
     | refine c_exit ?_
     | (refine s_iscond ?_; first
     | (refine c_true rfl (by first | with_reducible rfl | with_reducible assumption | ((with_reducible refine decide_eq_true ?_); first | with_reducible rfl | with_reducible assumption | omega)) ?_)
     | (refine c_false rfl (by first | with_reducible rfl | with_reducible assumption | ((with_reducible refine decide_eq_false ?_); first | with_reducible assumption | omega)) ?_)
     | (refine c_true rfl (by first | (simp only [Bool.not_eq_true', decide_eq_false_iff_not]; omega) | (with_reducible assumption) | (rw [decide_eq_false] <;> (first | omega | with_reducible rfl)) | (rw [decide_eq_true] <;> (first | omega | with_reducible rfl)) | (simp; done) | (simp; omega)) ?_)
     | (refine c_false rfl (by first | (simp only [Bool.not_eq_false', decide_eq_true_eq]; omega) | (with_reducible assumption) | (rw [decide_eq_false] <;> (first | omega | with_reducible rfl)) | (rw [decide_eq_true] <;> (first | omega | with_reducible rfl)) | (simp; done) | (simp; omega)) ?_)
     | refine c_cond rfl (fun hc => ?_) (fun hc => ?_)
     | refine c_condb rfl (fun hc => ?_) (fun hc => ?_)))
     | refine x_then ?_
     | refine x_then_ret ?_
     | refine x_then_exit ?_
     | refine x_block _ ?_
     | refine x_block_ret _ ?_
     | refine x_block_exit _ ?_
     | refine x_block_past (by decide) ?_
     | refine z_tailm ?_)
     | (refine z_isg1 ?_; first
     | refine z_skipu (by decide) rfl rfl ?_
     | (refine z_want1 rfl rfl (by first | with_reducible rfl | with_reducible assumption | ((with_reducible refine decide_eq_true ?_); first | with_reducible rfl | with_reducible assumption | omega)) ?_)
     | (refine z_skip1 (by decide) rfl rfl (by first | with_reducible rfl | with_reducible assumption | ((with_reducible refine decide_eq_false ?_); first | with_reducible assumption | omega)) ?_)
     | (refine z_want1 rfl rfl (by first | (simp only [Bool.not_eq_true', decide_eq_false_iff_not]; omega) | (with_reducible assumption) | (rw [decide_eq_false] <;> (first | omega | with_reducible rfl)) | (rw [decide_eq_true] <;> (first | omega | with_reducible rfl)) | (simp; done) | (simp; omega)) ?_)
     | (refine z_skip1 (by decide) rfl rfl (by first | (simp only [Bool.not_eq_false', decide_eq_true_eq]; omega) | (with_reducible assumption) | (rw [decide_eq_false] <;> (first | omega | with_reducible rfl)) | (rw [decide_eq_true] <;> (first | omega | with_reducible rfl)) | (simp; done) | (simp; omega)) ?_)
     | refine z_guard1 (by decide) rfl rfl (fun hc => ?_) (fun hc => ?_)
     | refine z_guardb (by decide) rfl rfl (fun hc => ?_) (fun hc => ?_))
     | (refine z_isnil ?_; first
     | refine z_keep1 ?_
     | refine z_keep2 ?_
     | refine z_list ?_
     | refine z_mixed ?_
     | refine z_mono0 ?_
     | refine z_mono1 (by decide) fun g => ?_
     | refine z_mono2 (by decide) (by decide) fun g g' => ?_
     | refine z_mixedx ?_
     | refine z_quiet ?_)
     | (refine z_isop ?_; first
     | refine o_boxa rfl rfl (by decide) fun g => ?_
     | refine o_alloca (e := 30) (vs := Sg.zero.cs) rfl (by kernel_rfl) (by decide) fun g => ?_
     | refine o_alloca (e := 26) (vs := Cx.zero.cs) rfl (by kernel_rfl) (by decide) fun g => ?_
     | refine o_alloca (e := 40) (vs := dCs 0 0 Cx.zero) rfl (by kernel_rfl) (by decide) fun g => ?_
     | refine o_build (t := 26) (v := .agg Cx.zero.cs.toArray) rfl (fun _ => by kernel_rfl) (by decide) ?_
     | refine o_buildf (t := 40) (zs := dCs 0 0 Cx.zero) tabOk rfl rfl (by kernel_rfl) rfl (d_fill _ _ _) (by decide) ?_
     | refine o_buildf (t := 40) (zs := dCs 0 0 Cx.zero) tabOk rfl rfl (by kernel_rfl) rfl (d_fill2 _) (by decide) ?_
     | (refine z_isbin ?_; first
     | (refine z_isb .neq ?_; first
     | refine o_ne rfl rfl (by decide) ?_
     | refine o_bne tabOk rfl rfl rfl (by decide) ?_
     | refine o_pne tabOk rfl rfl (by decide) ?_)
     | (refine z_isb .andNot ?_; first
     | refine o_andNot rfl rfl (by decide) ?_)
     | (refine z_isb .shl ?_; first
     | refine o_shl rfl rfl (by omega) (by decide) ?_))
     | (refine z_isload ?_; first
     | refine o_loadp tabOk rfl rfl rfl 0 rfl (cx_len _) (sg_c _) (by decide) ?_
     | refine o_loadp tabOk rfl rfl rfl 1 rfl (cx_len _) (sg_c _) (by decide) ?_
     | refine o_loadp tabOk rfl rfl rfl 2 rfl (cx_len _) (sg_c _) (by decide) ?_
     | refine o_loadp tabOk rfl rfl rfl 3 rfl (cx_len _) (sg_c _) (by decide) ?_
     | (refine z_ld1 tabOk rfl rfl ?_; first
     | refine o_loadm tabOk rfl rfl rfl (by repeat' (first | exact List.mem_cons_self | apply List.mem_cons_of_mem)) (by first | exact sg_w _ | exact sg_b _ | exact sg_h _ (by omega) | exact cx_pc _ | exact cx_r _ (by omega) | exact d_k _ _ _ | exact d_n _ _ _ | rfl) (by decide) ?_
     | refine o_loads tabOk (by first | assumption | exact Rds.cons _ (by assumption) | exact Rds.cons _ (Rds.cons _ (by assumption)) | exact own_rds 0 rfl | exact own_rds 1 rfl | exact own_rds 2 rfl) rfl rfl rfl (by first | exact sg_w _ | exact sg_b _ | exact sg_h _ (by omega) | exact cx_pc _ | exact cx_r _ (by omega) | exact d_k _ _ _ | exact d_n _ _ _ | rfl) (by decide) ?_)
     | (refine z_ldw tabOk rfl rfl ?_; first
     | refine o_loadwm tabOk rfl rfl rfl (by repeat' (first | exact List.mem_cons_self | apply List.mem_cons_of_mem)) (by first | exact sg_len _ | exact cx_len _ | exact d_len _ _ _ | (simp only [sg_len, cx_len, d_len]) | rfl) (by decide) ?_))
     | (refine z_isstore ?_; first
     | (refine o_storew_at rfl 0 tabOk rfl rfl rfl rfl (cx_len _) (cx_one _) (by rw [sg_len, cx_len]; decide) (sg_set_c _ _) ?_)
     | (refine o_storew_at rfl 1 tabOk rfl rfl rfl rfl (cx_len _) (cx_one _) (by rw [sg_len, cx_len]; decide) (sg_set_c _ _) ?_)
     | (refine o_storew_at rfl 2 tabOk rfl rfl rfl rfl (cx_len _) (cx_one _) (by rw [sg_len, cx_len]; decide) (sg_set_c _ _) ?_)
     | (refine o_storew_at rfl 3 tabOk rfl rfl rfl rfl (cx_len _) (cx_one _) (by rw [sg_len, cx_len]; decide) (sg_set_c _ _) ?_)
     | refine o_storebk 0 tabOk rfl rfl rfl rfl (by first | exact sg_len _ | exact cx_len _ | exact d_len _ _ _ | (simp only [sg_len, cx_len, d_len]) | rfl) (by first | exact sg_one _ | exact cx_one _ | exact d_one _ _ _ | rfl) (by first | exact sg_len _ | exact cx_len _ | exact d_len _ _ _ | (simp only [sg_len, cx_len, d_len]) | rfl) ?_
     | refine o_storebk 1 tabOk rfl rfl rfl rfl (by first | exact sg_len _ | exact cx_len _ | exact d_len _ _ _ | (simp only [sg_len, cx_len, d_len]) | rfl) (by first | exact sg_one _ | exact cx_one _ | exact d_one _ _ _ | rfl) (by first | exact sg_len _ | exact cx_len _ | exact d_len _ _ _ | (simp only [sg_len, cx_len, d_len]) | rfl) ?_
     | refine o_storek 0 tabOk rfl rfl rfl rfl rfl rfl (by first | exact sg_w _ | exact sg_b _ | exact sg_h _ (by omega) | exact cx_pc _ | exact cx_r _ (by omega) | exact d_k _ _ _ | exact d_n _ _ _ | rfl) (by first | exact sg_set_w _ _ | exact sg_set_b _ _ | exact sg_set_h _ (by omega) _ | exact cx_set_pc _ _ | exact cx_set_r _ (by omega) _ | rfl) ?_
     | (refine o_storewk 0 tabOk rfl rfl rfl rfl (cx_len _) (cx_one _) (by rw [sg_len, cx_len]; decide) (sg_set_c _ _) ?_)
     | (refine z_stw rfl ?_; first
     | ((refine z_sti 0 rfl rfl ?_; refine o_storeb0 rfl tabOk rfl rfl rfl (by first | exact sg_len _ | exact cx_len _ | exact d_len _ _ _ | (simp only [sg_len, cx_len, d_len]) | rfl) (by first | exact sg_one _ | exact cx_one _ | exact d_one _ _ _ | rfl) (by first | exact sg_len _ | exact cx_len _ | exact d_len _ _ _ | (simp only [sg_len, cx_len, d_len]) | rfl) ?_))
     | ((refine z_sti 1 rfl rfl ?_; refine o_storeb1 rfl tabOk rfl rfl rfl (by first | exact sg_len _ | exact cx_len _ | exact d_len _ _ _ | (simp only [sg_len, cx_len, d_len]) | rfl) (by first | exact sg_one _ | exact cx_one _ | exact d_one _ _ _ | rfl) (by first | exact sg_len _ | exact cx_len _ | exact d_len _ _ _ | (simp only [sg_len, cx_len, d_len]) | rfl) ?_))
     | ((refine z_sti 2 rfl rfl ?_; refine o_storeb2 rfl tabOk rfl rfl rfl (by first | exact sg_len _ | exact cx_len _ | exact d_len _ _ _ | (simp only [sg_len, cx_len, d_len]) | rfl) (by first | exact sg_one _ | exact cx_one _ | exact d_one _ _ _ | rfl) (by first | exact sg_len _ | exact cx_len _ | exact d_len _ _ _ | (simp only [sg_len, cx_len, d_len]) | rfl) ?_))
     | ((refine z_sti 3 rfl rfl ?_; refine o_storeb3 rfl tabOk rfl rfl rfl (by first | exact sg_len _ | exact cx_len _ | exact d_len _ _ _ | (simp only [sg_len, cx_len, d_len]) | rfl) (by first | exact sg_one _ | exact cx_one _ | exact d_one _ _ _ | rfl) (by first | exact sg_len _ | exact cx_len _ | exact d_len _ _ _ | (simp only [sg_len, cx_len, d_len]) | rfl) ?_))
     | ((refine z_sti 4 rfl rfl ?_; refine o_storeb4 rfl tabOk rfl rfl rfl (by first | exact sg_len _ | exact cx_len _ | exact d_len _ _ _ | (simp only [sg_len, cx_len, d_len]) | rfl) (by first | exact sg_one _ | exact cx_one _ | exact d_one _ _ _ | rfl) (by first | exact sg_len _ | exact cx_len _ | exact d_len _ _ _ | (simp only [sg_len, cx_len, d_len]) | rfl) ?_))
     | ((refine z_sti 5 rfl rfl ?_; refine o_storeb5 rfl tabOk rfl rfl rfl (by first | exact sg_len _ | exact cx_len _ | exact d_len _ _ _ | (simp only [sg_len, cx_len, d_len]) | rfl) (by first | exact sg_one _ | exact cx_one _ | exact d_one _ _ _ | rfl) (by first | exact sg_len _ | exact cx_len _ | exact d_len _ _ _ | (simp only [sg_len, cx_len, d_len]) | rfl) ?_))
     | ((refine z_sti 6 rfl rfl ?_; refine o_storeb6 rfl tabOk rfl rfl rfl (by first | exact sg_len _ | exact cx_len _ | exact d_len _ _ _ | (simp only [sg_len, cx_len, d_len]) | rfl) (by first | exact sg_one _ | exact cx_one _ | exact d_one _ _ _ | rfl) (by first | exact sg_len _ | exact cx_len _ | exact d_len _ _ _ | (simp only [sg_len, cx_len, d_len]) | rfl) ?_)))
     | (refine z_st1 rfl rfl ?_; first
     | refine o_store rfl tabOk rfl rfl rfl rfl rfl (by first | exact sg_w _ | exact sg_b _ | exact sg_h _ (by omega) | exact cx_pc _ | exact cx_r _ (by omega) | exact d_k _ _ _ | exact d_n _ _ _ | rfl) (by first | exact sg_set_w _ _ | exact sg_set_b _ _ | exact sg_set_h _ (by omega) _ | exact cx_set_pc _ _ | exact cx_set_r _ (by omega) _ | rfl) ?_
     | ((refine z_sti 1 rfl rfl ?_; refine o_store1 rfl tabOk rfl rfl rfl rfl rfl (by first | exact sg_w _ | exact sg_b _ | exact sg_h _ (by omega) | exact cx_pc _ | exact cx_r _ (by omega) | exact d_k _ _ _ | exact d_n _ _ _ | rfl) (by first | exact sg_set_w _ _ | exact sg_set_b _ _ | exact sg_set_h _ (by omega) _ | exact cx_set_pc _ _ | exact cx_set_r _ (by omega) _ | rfl) ?_))
     | ((refine z_sti 2 rfl rfl ?_; refine o_store2 rfl tabOk rfl rfl rfl rfl rfl (by first | exact sg_w _ | exact sg_b _ | exact sg_h _ (by omega) | exact cx_pc _ | exact cx_r _ (by omega) | exact d_k _ _ _ | exact d_n _ _ _ | rfl) (by first | exact sg_set_w _ _ | exact sg_set_b _ _ | exact sg_set_h _ (by omega) _ | exact cx_set_pc _ _ | exact cx_set_r _ (by omega) _ | rfl) ?_))
     | ((refine z_sti 3 rfl rfl ?_; refine o_store3 rfl tabOk rfl rfl rfl rfl rfl (by first | exact sg_w _ | exact sg_b _ | exact sg_h _ (by omega) | exact cx_pc _ | exact cx_r _ (by omega) | exact d_k _ _ _ | exact d_n _ _ _ | rfl) (by first | exact sg_set_w _ _ | exact sg_set_b _ _ | exact sg_set_h _ (by omega) _ | exact cx_set_pc _ _ | exact cx_set_r _ (by omega) _ | rfl) ?_))
     | ((refine z_sti 4 rfl rfl ?_; refine o_store4 rfl tabOk rfl rfl rfl rfl rfl (by first | exact sg_w _ | exact sg_b _ | exact sg_h _ (by omega) | exact cx_pc _ | exact cx_r _ (by omega) | exact d_k _ _ _ | exact d_n _ _ _ | rfl) (by first | exact sg_set_w _ _ | exact sg_set_b _ _ | exact sg_set_h _ (by omega) _ | exact cx_set_pc _ _ | exact cx_set_r _ (by omega) _ | rfl) ?_))
     | ((refine z_sti 5 rfl rfl ?_; refine o_store5 rfl tabOk rfl rfl rfl rfl rfl (by first | exact sg_w _ | exact sg_b _ | exact sg_h _ (by omega) | exact cx_pc _ | exact cx_r _ (by omega) | exact d_k _ _ _ | exact d_n _ _ _ | rfl) (by first | exact sg_set_w _ _ | exact sg_set_b _ _ | exact sg_set_h _ (by omega) _ | exact cx_set_pc _ _ | exact cx_set_r _ (by omega) _ | rfl) ?_))
     | ((refine z_sti 6 rfl rfl ?_; refine o_store6 rfl tabOk rfl rfl rfl rfl rfl (by first | exact sg_w _ | exact sg_b _ | exact sg_h _ (by omega) | exact cx_pc _ | exact cx_r _ (by omega) | exact d_k _ _ _ | exact d_n _ _ _ | rfl) (by first | exact sg_set_w _ _ | exact sg_set_b _ _ | exact sg_set_h _ (by omega) _ | exact cx_set_pc _ _ | exact cx_set_r _ (by omega) _ | rfl) ?_))))
     | (refine z_iscall ?_; first
     | ((refine z_iscallf 10 ?_; refine o_fn rfl Tryd.func10 rfl rfl rfl (waits_fn _ _) (by decide) ?_)))
     | (refine z_ispick ?_; first
     | (refine o_pick1 rfl (by first | with_reducible rfl | with_reducible assumption | ((with_reducible refine decide_eq_true ?_); first | with_reducible rfl | with_reducible assumption | omega)) rfl (by decide) ?_)
     | (refine o_pick0 rfl (by first | with_reducible rfl | with_reducible assumption | ((with_reducible refine decide_eq_false ?_); first | with_reducible assumption | omega)) rfl (by decide) ?_)
     | (refine o_pick1 rfl (by first | (simp only [Bool.not_eq_true', decide_eq_false_iff_not]; omega) | (with_reducible assumption) | (rw [decide_eq_false] <;> (first | omega | with_reducible rfl)) | (rw [decide_eq_true] <;> (first | omega | with_reducible rfl)) | (simp; done) | (simp; omega)) rfl (by decide) ?_)
     | (refine o_pick0 rfl (by first | (simp only [Bool.not_eq_false', decide_eq_true_eq]; omega) | (with_reducible assumption) | (rw [decide_eq_false] <;> (first | omega | with_reducible rfl)) | (rw [decide_eq_true] <;> (first | omega | with_reducible rfl)) | (simp; done) | (simp; omega)) rfl (by decide) ?_))
     | (refine z_isix ?_; first
     | refine o_index0 tabOk rfl rfl rfl rfl (by omega) (by omega) (by decide) ?_
     | refine o_index1 tabOk rfl rfl rfl rfl (by omega) (by omega) (by decide) ?_
     | refine o_indexsk tabOk rfl rfl rfl rfl (by omega) (by omega) (by decide) ?_
     | refine o_indexs1 tabOk (by first | assumption) rfl rfl rfl rfl (by omega) (by omega) (by decide) ?_)
     | refine o_move rfl (by decide) ?_
     | refine o_assign rfl (by decide) ?_
     | refine o_nil rfl (by decide) ?_
     | refine o_extract rfl rfl (by decide) ?_
     | refine o_not rfl (by decide) ?_
     | refine o_field0 tabOk rfl rfl rfl rfl rfl (by decide) ?_
     | refine o_field tabOk rfl rfl rfl rfl rfl (by decide) ?_
     | refine o_conv tabOk rfl rfl rfl (by decide) ?_))
  rcases Bool.eq_false_or_eq_true s.b with hb | hb
  · have hn : s.next c = (s, 0, 0, c) := by simp [Sg.next, e0, hb]
    rw [hn]
    have e1 : (!s.b) = false := by rw [hb]; rfl
    clear hz hn hb
    repeat' (first
     | ((refine s_sel 4 [1, 0, 2, 3] (by decide) ?_; refine c_keep2 (id := 13) mixed (by kernel_rfl) ?_))
     | (refine s_is ?_; first
     | (refine s_isret ?_; first
     | exact f_r2 rfl (res_c tabOk rfl rfl rfl 0 rfl (sg_len _)) (res_c tabOk rfl rfl rfl 1 rfl (d_len _ _ _)) () trivial rfl (fun w h => h.sub (List.sublist_append_right [_, _, _, _] fr)))
     | (refine s_isw ?_; first
     | (refine s_isloop ?_; first
     | ((rename_i g2 g3 g4; refine c_loop (X := Unit) (fun _ => True) (fun _ => [(2, .pointer (some ⟨g2, 0, none⟩)), (3, .pointer (some ⟨g3, 0, none⟩)), (4, .pointer (some ⟨g4, 0, none⟩)), (5, .pointer (some ⟨g, 0, none⟩))]) (fun _ => cells g 40 (dCs 0 0 Cx.zero) :: cells g4 30 Sg.zero.cs :: cells g3 26 c.cs :: cells g2 30 s.cs :: fr) (fun _ => 0) () trivial ⟨rfl, rfl, rfl, rfl, trivial⟩ (fun w h => h) (fun x hx => ?_))))
     | refine c_seq ?_
     | refine c_block ?_
     | refine c_region ?_
     | refine c_mixed mixed (by kernel_rfl) ?_
     | refine c_skip ?_
     | refine c_ret ?_
     | refine c_exit ?_
     | (refine s_iscond ?_; first
     | (refine c_true rfl (by first | with_reducible rfl | with_reducible assumption | ((with_reducible refine decide_eq_true ?_); first | with_reducible rfl | with_reducible assumption | omega)) ?_)
     | (refine c_false rfl (by first | with_reducible rfl | with_reducible assumption | ((with_reducible refine decide_eq_false ?_); first | with_reducible assumption | omega)) ?_)
     | (refine c_true rfl (by first | (simp only [Bool.not_eq_true', decide_eq_false_iff_not]; omega) | (with_reducible assumption) | (rw [decide_eq_false] <;> (first | omega | with_reducible rfl)) | (rw [decide_eq_true] <;> (first | omega | with_reducible rfl)) | (simp; done) | (simp; omega)) ?_)
     | (refine c_false rfl (by first | (simp only [Bool.not_eq_false', decide_eq_true_eq]; omega) | (with_reducible assumption) | (rw [decide_eq_false] <;> (first | omega | with_reducible rfl)) | (rw [decide_eq_true] <;> (first | omega | with_reducible rfl)) | (simp; done) | (simp; omega)) ?_)
     | refine c_cond rfl (fun hc => ?_) (fun hc => ?_)
     | refine c_condb rfl (fun hc => ?_) (fun hc => ?_)))
     | refine x_then ?_
     | refine x_then_ret ?_
     | refine x_then_exit ?_
     | refine x_block _ ?_
     | refine x_block_ret _ ?_
     | refine x_block_exit _ ?_
     | refine x_block_past (by decide) ?_
     | refine z_tailm ?_)
     | (refine z_isg1 ?_; first
     | refine z_skipu (by decide) rfl rfl ?_
     | (refine z_want1 rfl rfl (by first | with_reducible rfl | with_reducible assumption | ((with_reducible refine decide_eq_true ?_); first | with_reducible rfl | with_reducible assumption | omega)) ?_)
     | (refine z_skip1 (by decide) rfl rfl (by first | with_reducible rfl | with_reducible assumption | ((with_reducible refine decide_eq_false ?_); first | with_reducible assumption | omega)) ?_)
     | (refine z_want1 rfl rfl (by first | (simp only [Bool.not_eq_true', decide_eq_false_iff_not]; omega) | (with_reducible assumption) | (rw [decide_eq_false] <;> (first | omega | with_reducible rfl)) | (rw [decide_eq_true] <;> (first | omega | with_reducible rfl)) | (simp; done) | (simp; omega)) ?_)
     | (refine z_skip1 (by decide) rfl rfl (by first | (simp only [Bool.not_eq_false', decide_eq_true_eq]; omega) | (with_reducible assumption) | (rw [decide_eq_false] <;> (first | omega | with_reducible rfl)) | (rw [decide_eq_true] <;> (first | omega | with_reducible rfl)) | (simp; done) | (simp; omega)) ?_)
     | refine z_guard1 (by decide) rfl rfl (fun hc => ?_) (fun hc => ?_)
     | refine z_guardb (by decide) rfl rfl (fun hc => ?_) (fun hc => ?_))
     | (refine z_isnil ?_; first
     | refine z_keep1 ?_
     | refine z_keep2 ?_
     | refine z_list ?_
     | refine z_mixed ?_
     | refine z_mono0 ?_
     | refine z_mono1 (by decide) fun g => ?_
     | refine z_mono2 (by decide) (by decide) fun g g' => ?_
     | refine z_mixedx ?_
     | refine z_quiet ?_)
     | (refine z_isop ?_; first
     | refine o_boxa rfl rfl (by decide) fun g => ?_
     | refine o_alloca (e := 30) (vs := Sg.zero.cs) rfl (by kernel_rfl) (by decide) fun g => ?_
     | refine o_alloca (e := 26) (vs := Cx.zero.cs) rfl (by kernel_rfl) (by decide) fun g => ?_
     | refine o_alloca (e := 40) (vs := dCs 0 0 Cx.zero) rfl (by kernel_rfl) (by decide) fun g => ?_
     | refine o_build (t := 26) (v := .agg Cx.zero.cs.toArray) rfl (fun _ => by kernel_rfl) (by decide) ?_
     | refine o_buildf (t := 40) (zs := dCs 0 0 Cx.zero) tabOk rfl rfl (by kernel_rfl) rfl (d_fill _ _ _) (by decide) ?_
     | refine o_buildf (t := 40) (zs := dCs 0 0 Cx.zero) tabOk rfl rfl (by kernel_rfl) rfl (d_fill2 _) (by decide) ?_
     | (refine z_isbin ?_; first
     | (refine z_isb .neq ?_; first
     | refine o_ne rfl rfl (by decide) ?_
     | refine o_bne tabOk rfl rfl rfl (by decide) ?_
     | refine o_pne tabOk rfl rfl (by decide) ?_)
     | (refine z_isb .andNot ?_; first
     | refine o_andNot rfl rfl (by decide) ?_)
     | (refine z_isb .shl ?_; first
     | refine o_shl rfl rfl (by omega) (by decide) ?_))
     | (refine z_isload ?_; first
     | refine o_loadp tabOk rfl rfl rfl 0 rfl (cx_len _) (sg_c _) (by decide) ?_
     | refine o_loadp tabOk rfl rfl rfl 1 rfl (cx_len _) (sg_c _) (by decide) ?_
     | refine o_loadp tabOk rfl rfl rfl 2 rfl (cx_len _) (sg_c _) (by decide) ?_
     | refine o_loadp tabOk rfl rfl rfl 3 rfl (cx_len _) (sg_c _) (by decide) ?_
     | (refine z_ld1 tabOk rfl rfl ?_; first
     | refine o_loadm tabOk rfl rfl rfl (by repeat' (first | exact List.mem_cons_self | apply List.mem_cons_of_mem)) (by first | exact sg_w _ | exact sg_b _ | exact sg_h _ (by omega) | exact cx_pc _ | exact cx_r _ (by omega) | exact d_k _ _ _ | exact d_n _ _ _ | rfl) (by decide) ?_
     | refine o_loads tabOk (by first | assumption | exact Rds.cons _ (by assumption) | exact Rds.cons _ (Rds.cons _ (by assumption)) | exact own_rds 0 rfl | exact own_rds 1 rfl | exact own_rds 2 rfl) rfl rfl rfl (by first | exact sg_w _ | exact sg_b _ | exact sg_h _ (by omega) | exact cx_pc _ | exact cx_r _ (by omega) | exact d_k _ _ _ | exact d_n _ _ _ | rfl) (by decide) ?_)
     | (refine z_ldw tabOk rfl rfl ?_; first
     | refine o_loadwm tabOk rfl rfl rfl (by repeat' (first | exact List.mem_cons_self | apply List.mem_cons_of_mem)) (by first | exact sg_len _ | exact cx_len _ | exact d_len _ _ _ | (simp only [sg_len, cx_len, d_len]) | rfl) (by decide) ?_))
     | (refine z_isstore ?_; first
     | (refine o_storew_at rfl 0 tabOk rfl rfl rfl rfl (cx_len _) (cx_one _) (by rw [sg_len, cx_len]; decide) (sg_set_c _ _) ?_)
     | (refine o_storew_at rfl 1 tabOk rfl rfl rfl rfl (cx_len _) (cx_one _) (by rw [sg_len, cx_len]; decide) (sg_set_c _ _) ?_)
     | (refine o_storew_at rfl 2 tabOk rfl rfl rfl rfl (cx_len _) (cx_one _) (by rw [sg_len, cx_len]; decide) (sg_set_c _ _) ?_)
     | (refine o_storew_at rfl 3 tabOk rfl rfl rfl rfl (cx_len _) (cx_one _) (by rw [sg_len, cx_len]; decide) (sg_set_c _ _) ?_)
     | refine o_storebk 0 tabOk rfl rfl rfl rfl (by first | exact sg_len _ | exact cx_len _ | exact d_len _ _ _ | (simp only [sg_len, cx_len, d_len]) | rfl) (by first | exact sg_one _ | exact cx_one _ | exact d_one _ _ _ | rfl) (by first | exact sg_len _ | exact cx_len _ | exact d_len _ _ _ | (simp only [sg_len, cx_len, d_len]) | rfl) ?_
     | refine o_storebk 1 tabOk rfl rfl rfl rfl (by first | exact sg_len _ | exact cx_len _ | exact d_len _ _ _ | (simp only [sg_len, cx_len, d_len]) | rfl) (by first | exact sg_one _ | exact cx_one _ | exact d_one _ _ _ | rfl) (by first | exact sg_len _ | exact cx_len _ | exact d_len _ _ _ | (simp only [sg_len, cx_len, d_len]) | rfl) ?_
     | refine o_storek 0 tabOk rfl rfl rfl rfl rfl rfl (by first | exact sg_w _ | exact sg_b _ | exact sg_h _ (by omega) | exact cx_pc _ | exact cx_r _ (by omega) | exact d_k _ _ _ | exact d_n _ _ _ | rfl) (by first | exact sg_set_w _ _ | exact sg_set_b _ _ | exact sg_set_h _ (by omega) _ | exact cx_set_pc _ _ | exact cx_set_r _ (by omega) _ | rfl) ?_
     | (refine o_storewk 0 tabOk rfl rfl rfl rfl (cx_len _) (cx_one _) (by rw [sg_len, cx_len]; decide) (sg_set_c _ _) ?_)
     | (refine z_stw rfl ?_; first
     | ((refine z_sti 0 rfl rfl ?_; refine o_storeb0 rfl tabOk rfl rfl rfl (by first | exact sg_len _ | exact cx_len _ | exact d_len _ _ _ | (simp only [sg_len, cx_len, d_len]) | rfl) (by first | exact sg_one _ | exact cx_one _ | exact d_one _ _ _ | rfl) (by first | exact sg_len _ | exact cx_len _ | exact d_len _ _ _ | (simp only [sg_len, cx_len, d_len]) | rfl) ?_))
     | ((refine z_sti 1 rfl rfl ?_; refine o_storeb1 rfl tabOk rfl rfl rfl (by first | exact sg_len _ | exact cx_len _ | exact d_len _ _ _ | (simp only [sg_len, cx_len, d_len]) | rfl) (by first | exact sg_one _ | exact cx_one _ | exact d_one _ _ _ | rfl) (by first | exact sg_len _ | exact cx_len _ | exact d_len _ _ _ | (simp only [sg_len, cx_len, d_len]) | rfl) ?_))
     | ((refine z_sti 2 rfl rfl ?_; refine o_storeb2 rfl tabOk rfl rfl rfl (by first | exact sg_len _ | exact cx_len _ | exact d_len _ _ _ | (simp only [sg_len, cx_len, d_len]) | rfl) (by first | exact sg_one _ | exact cx_one _ | exact d_one _ _ _ | rfl) (by first | exact sg_len _ | exact cx_len _ | exact d_len _ _ _ | (simp only [sg_len, cx_len, d_len]) | rfl) ?_))
     | ((refine z_sti 3 rfl rfl ?_; refine o_storeb3 rfl tabOk rfl rfl rfl (by first | exact sg_len _ | exact cx_len _ | exact d_len _ _ _ | (simp only [sg_len, cx_len, d_len]) | rfl) (by first | exact sg_one _ | exact cx_one _ | exact d_one _ _ _ | rfl) (by first | exact sg_len _ | exact cx_len _ | exact d_len _ _ _ | (simp only [sg_len, cx_len, d_len]) | rfl) ?_))
     | ((refine z_sti 4 rfl rfl ?_; refine o_storeb4 rfl tabOk rfl rfl rfl (by first | exact sg_len _ | exact cx_len _ | exact d_len _ _ _ | (simp only [sg_len, cx_len, d_len]) | rfl) (by first | exact sg_one _ | exact cx_one _ | exact d_one _ _ _ | rfl) (by first | exact sg_len _ | exact cx_len _ | exact d_len _ _ _ | (simp only [sg_len, cx_len, d_len]) | rfl) ?_))
     | ((refine z_sti 5 rfl rfl ?_; refine o_storeb5 rfl tabOk rfl rfl rfl (by first | exact sg_len _ | exact cx_len _ | exact d_len _ _ _ | (simp only [sg_len, cx_len, d_len]) | rfl) (by first | exact sg_one _ | exact cx_one _ | exact d_one _ _ _ | rfl) (by first | exact sg_len _ | exact cx_len _ | exact d_len _ _ _ | (simp only [sg_len, cx_len, d_len]) | rfl) ?_))
     | ((refine z_sti 6 rfl rfl ?_; refine o_storeb6 rfl tabOk rfl rfl rfl (by first | exact sg_len _ | exact cx_len _ | exact d_len _ _ _ | (simp only [sg_len, cx_len, d_len]) | rfl) (by first | exact sg_one _ | exact cx_one _ | exact d_one _ _ _ | rfl) (by first | exact sg_len _ | exact cx_len _ | exact d_len _ _ _ | (simp only [sg_len, cx_len, d_len]) | rfl) ?_)))
     | (refine z_st1 rfl rfl ?_; first
     | refine o_store rfl tabOk rfl rfl rfl rfl rfl (by first | exact sg_w _ | exact sg_b _ | exact sg_h _ (by omega) | exact cx_pc _ | exact cx_r _ (by omega) | exact d_k _ _ _ | exact d_n _ _ _ | rfl) (by first | exact sg_set_w _ _ | exact sg_set_b _ _ | exact sg_set_h _ (by omega) _ | exact cx_set_pc _ _ | exact cx_set_r _ (by omega) _ | rfl) ?_
     | ((refine z_sti 1 rfl rfl ?_; refine o_store1 rfl tabOk rfl rfl rfl rfl rfl (by first | exact sg_w _ | exact sg_b _ | exact sg_h _ (by omega) | exact cx_pc _ | exact cx_r _ (by omega) | exact d_k _ _ _ | exact d_n _ _ _ | rfl) (by first | exact sg_set_w _ _ | exact sg_set_b _ _ | exact sg_set_h _ (by omega) _ | exact cx_set_pc _ _ | exact cx_set_r _ (by omega) _ | rfl) ?_))
     | ((refine z_sti 2 rfl rfl ?_; refine o_store2 rfl tabOk rfl rfl rfl rfl rfl (by first | exact sg_w _ | exact sg_b _ | exact sg_h _ (by omega) | exact cx_pc _ | exact cx_r _ (by omega) | exact d_k _ _ _ | exact d_n _ _ _ | rfl) (by first | exact sg_set_w _ _ | exact sg_set_b _ _ | exact sg_set_h _ (by omega) _ | exact cx_set_pc _ _ | exact cx_set_r _ (by omega) _ | rfl) ?_))
     | ((refine z_sti 3 rfl rfl ?_; refine o_store3 rfl tabOk rfl rfl rfl rfl rfl (by first | exact sg_w _ | exact sg_b _ | exact sg_h _ (by omega) | exact cx_pc _ | exact cx_r _ (by omega) | exact d_k _ _ _ | exact d_n _ _ _ | rfl) (by first | exact sg_set_w _ _ | exact sg_set_b _ _ | exact sg_set_h _ (by omega) _ | exact cx_set_pc _ _ | exact cx_set_r _ (by omega) _ | rfl) ?_))
     | ((refine z_sti 4 rfl rfl ?_; refine o_store4 rfl tabOk rfl rfl rfl rfl rfl (by first | exact sg_w _ | exact sg_b _ | exact sg_h _ (by omega) | exact cx_pc _ | exact cx_r _ (by omega) | exact d_k _ _ _ | exact d_n _ _ _ | rfl) (by first | exact sg_set_w _ _ | exact sg_set_b _ _ | exact sg_set_h _ (by omega) _ | exact cx_set_pc _ _ | exact cx_set_r _ (by omega) _ | rfl) ?_))
     | ((refine z_sti 5 rfl rfl ?_; refine o_store5 rfl tabOk rfl rfl rfl rfl rfl (by first | exact sg_w _ | exact sg_b _ | exact sg_h _ (by omega) | exact cx_pc _ | exact cx_r _ (by omega) | exact d_k _ _ _ | exact d_n _ _ _ | rfl) (by first | exact sg_set_w _ _ | exact sg_set_b _ _ | exact sg_set_h _ (by omega) _ | exact cx_set_pc _ _ | exact cx_set_r _ (by omega) _ | rfl) ?_))
     | ((refine z_sti 6 rfl rfl ?_; refine o_store6 rfl tabOk rfl rfl rfl rfl rfl (by first | exact sg_w _ | exact sg_b _ | exact sg_h _ (by omega) | exact cx_pc _ | exact cx_r _ (by omega) | exact d_k _ _ _ | exact d_n _ _ _ | rfl) (by first | exact sg_set_w _ _ | exact sg_set_b _ _ | exact sg_set_h _ (by omega) _ | exact cx_set_pc _ _ | exact cx_set_r _ (by omega) _ | rfl) ?_))))
     | (refine z_iscall ?_; first
     | ((refine z_iscallf 10 ?_; refine o_fn rfl Tryd.func10 rfl rfl rfl (waits_fn _ _) (by decide) ?_)))
     | (refine z_ispick ?_; first
     | (refine o_pick1 rfl (by first | with_reducible rfl | with_reducible assumption | ((with_reducible refine decide_eq_true ?_); first | with_reducible rfl | with_reducible assumption | omega)) rfl (by decide) ?_)
     | (refine o_pick0 rfl (by first | with_reducible rfl | with_reducible assumption | ((with_reducible refine decide_eq_false ?_); first | with_reducible assumption | omega)) rfl (by decide) ?_)
     | (refine o_pick1 rfl (by first | (simp only [Bool.not_eq_true', decide_eq_false_iff_not]; omega) | (with_reducible assumption) | (rw [decide_eq_false] <;> (first | omega | with_reducible rfl)) | (rw [decide_eq_true] <;> (first | omega | with_reducible rfl)) | (simp; done) | (simp; omega)) rfl (by decide) ?_)
     | (refine o_pick0 rfl (by first | (simp only [Bool.not_eq_false', decide_eq_true_eq]; omega) | (with_reducible assumption) | (rw [decide_eq_false] <;> (first | omega | with_reducible rfl)) | (rw [decide_eq_true] <;> (first | omega | with_reducible rfl)) | (simp; done) | (simp; omega)) rfl (by decide) ?_))
     | (refine z_isix ?_; first
     | refine o_index0 tabOk rfl rfl rfl rfl (by omega) (by omega) (by decide) ?_
     | refine o_index1 tabOk rfl rfl rfl rfl (by omega) (by omega) (by decide) ?_
     | refine o_indexsk tabOk rfl rfl rfl rfl (by omega) (by omega) (by decide) ?_
     | refine o_indexs1 tabOk (by first | assumption) rfl rfl rfl rfl (by omega) (by omega) (by decide) ?_)
     | refine o_move rfl (by decide) ?_
     | refine o_assign rfl (by decide) ?_
     | refine o_nil rfl (by decide) ?_
     | refine o_extract rfl rfl (by decide) ?_
     | refine o_not rfl (by decide) ?_
     | refine o_field0 tabOk rfl rfl rfl rfl rfl (by decide) ?_
     | refine o_field tabOk rfl rfl rfl rfl rfl (by decide) ?_
     | refine o_conv tabOk rfl rfl rfl (by decide) ?_))
  by_cases hw0 : s.w = 0
  · have hn : s.next c = (s, 0, 0, c) := by simp [Sg.next, e0, hw0]
    rw [hn]
    have e1 : (!s.b) = true := by rw [hb]; rfl
    have e2 : decide (s.w ≠ 0) = false := by simp [hw0]
    clear hz hn hb
    repeat' (first
     | ((refine s_sel 4 [1, 0, 2, 3] (by decide) ?_; refine c_keep2 (id := 13) mixed (by kernel_rfl) ?_))
     | (refine s_is ?_; first
     | (refine s_isret ?_; first
     | exact f_r2 rfl (res_c tabOk rfl rfl rfl 0 rfl (sg_len _)) (res_c tabOk rfl rfl rfl 1 rfl (d_len _ _ _)) () trivial rfl (fun w h => h.sub (List.sublist_append_right [_, _, _, _] fr)))
     | (refine s_isw ?_; first
     | (refine s_isloop ?_; first
     | ((rename_i g2 g3 g4; refine c_loop (X := Unit) (fun _ => True) (fun _ => [(2, .pointer (some ⟨g2, 0, none⟩)), (3, .pointer (some ⟨g3, 0, none⟩)), (4, .pointer (some ⟨g4, 0, none⟩)), (5, .pointer (some ⟨g, 0, none⟩))]) (fun _ => cells g 40 (dCs 0 0 Cx.zero) :: cells g4 30 Sg.zero.cs :: cells g3 26 c.cs :: cells g2 30 s.cs :: fr) (fun _ => 0) () trivial ⟨rfl, rfl, rfl, rfl, trivial⟩ (fun w h => h) (fun x hx => ?_))))
     | refine c_seq ?_
     | refine c_block ?_
     | refine c_region ?_
     | refine c_mixed mixed (by kernel_rfl) ?_
     | refine c_skip ?_
     | refine c_ret ?_
     | refine c_exit ?_
     | (refine s_iscond ?_; first
     | (refine c_true rfl (by first | with_reducible rfl | with_reducible assumption | ((with_reducible refine decide_eq_true ?_); first | with_reducible rfl | with_reducible assumption | omega)) ?_)
     | (refine c_false rfl (by first | with_reducible rfl | with_reducible assumption | ((with_reducible refine decide_eq_false ?_); first | with_reducible assumption | omega)) ?_)
     | (refine c_true rfl (by first | (simp only [Bool.not_eq_true', decide_eq_false_iff_not]; omega) | (with_reducible assumption) | (rw [decide_eq_false] <;> (first | omega | with_reducible rfl)) | (rw [decide_eq_true] <;> (first | omega | with_reducible rfl)) | (simp; done) | (simp; omega)) ?_)
     | (refine c_false rfl (by first | (simp only [Bool.not_eq_false', decide_eq_true_eq]; omega) | (with_reducible assumption) | (rw [decide_eq_false] <;> (first | omega | with_reducible rfl)) | (rw [decide_eq_true] <;> (first | omega | with_reducible rfl)) | (simp; done) | (simp; omega)) ?_)
     | refine c_cond rfl (fun hc => ?_) (fun hc => ?_)
     | refine c_condb rfl (fun hc => ?_) (fun hc => ?_)))
     | refine x_then ?_
     | refine x_then_ret ?_
     | refine x_then_exit ?_
     | refine x_block _ ?_
     | refine x_block_ret _ ?_
     | refine x_block_exit _ ?_
     | refine x_block_past (by decide) ?_
     | refine z_tailm ?_)
     | (refine z_isg1 ?_; first
     | refine z_skipu (by decide) rfl rfl ?_
     | (refine z_want1 rfl rfl (by first | with_reducible rfl | with_reducible assumption | ((with_reducible refine decide_eq_true ?_); first | with_reducible rfl | with_reducible assumption | omega)) ?_)
     | (refine z_skip1 (by decide) rfl rfl (by first | with_reducible rfl | with_reducible assumption | ((with_reducible refine decide_eq_false ?_); first | with_reducible assumption | omega)) ?_)
     | (refine z_want1 rfl rfl (by first | (simp only [Bool.not_eq_true', decide_eq_false_iff_not]; omega) | (with_reducible assumption) | (rw [decide_eq_false] <;> (first | omega | with_reducible rfl)) | (rw [decide_eq_true] <;> (first | omega | with_reducible rfl)) | (simp; done) | (simp; omega)) ?_)
     | (refine z_skip1 (by decide) rfl rfl (by first | (simp only [Bool.not_eq_false', decide_eq_true_eq]; omega) | (with_reducible assumption) | (rw [decide_eq_false] <;> (first | omega | with_reducible rfl)) | (rw [decide_eq_true] <;> (first | omega | with_reducible rfl)) | (simp; done) | (simp; omega)) ?_)
     | refine z_guard1 (by decide) rfl rfl (fun hc => ?_) (fun hc => ?_)
     | refine z_guardb (by decide) rfl rfl (fun hc => ?_) (fun hc => ?_))
     | (refine z_isnil ?_; first
     | refine z_keep1 ?_
     | refine z_keep2 ?_
     | refine z_list ?_
     | refine z_mixed ?_
     | refine z_mono0 ?_
     | refine z_mono1 (by decide) fun g => ?_
     | refine z_mono2 (by decide) (by decide) fun g g' => ?_
     | refine z_mixedx ?_
     | refine z_quiet ?_)
     | (refine z_isop ?_; first
     | refine o_boxa rfl rfl (by decide) fun g => ?_
     | refine o_alloca (e := 30) (vs := Sg.zero.cs) rfl (by kernel_rfl) (by decide) fun g => ?_
     | refine o_alloca (e := 26) (vs := Cx.zero.cs) rfl (by kernel_rfl) (by decide) fun g => ?_
     | refine o_alloca (e := 40) (vs := dCs 0 0 Cx.zero) rfl (by kernel_rfl) (by decide) fun g => ?_
     | refine o_build (t := 26) (v := .agg Cx.zero.cs.toArray) rfl (fun _ => by kernel_rfl) (by decide) ?_
     | refine o_buildf (t := 40) (zs := dCs 0 0 Cx.zero) tabOk rfl rfl (by kernel_rfl) rfl (d_fill _ _ _) (by decide) ?_
     | refine o_buildf (t := 40) (zs := dCs 0 0 Cx.zero) tabOk rfl rfl (by kernel_rfl) rfl (d_fill2 _) (by decide) ?_
     | (refine z_isbin ?_; first
     | (refine z_isb .neq ?_; first
     | refine o_ne rfl rfl (by decide) ?_
     | refine o_bne tabOk rfl rfl rfl (by decide) ?_
     | refine o_pne tabOk rfl rfl (by decide) ?_)
     | (refine z_isb .andNot ?_; first
     | refine o_andNot rfl rfl (by decide) ?_)
     | (refine z_isb .shl ?_; first
     | refine o_shl rfl rfl (by omega) (by decide) ?_))
     | (refine z_isload ?_; first
     | refine o_loadp tabOk rfl rfl rfl 0 rfl (cx_len _) (sg_c _) (by decide) ?_
     | refine o_loadp tabOk rfl rfl rfl 1 rfl (cx_len _) (sg_c _) (by decide) ?_
     | refine o_loadp tabOk rfl rfl rfl 2 rfl (cx_len _) (sg_c _) (by decide) ?_
     | refine o_loadp tabOk rfl rfl rfl 3 rfl (cx_len _) (sg_c _) (by decide) ?_
     | (refine z_ld1 tabOk rfl rfl ?_; first
     | refine o_loadm tabOk rfl rfl rfl (by repeat' (first | exact List.mem_cons_self | apply List.mem_cons_of_mem)) (by first | exact sg_w _ | exact sg_b _ | exact sg_h _ (by omega) | exact cx_pc _ | exact cx_r _ (by omega) | exact d_k _ _ _ | exact d_n _ _ _ | rfl) (by decide) ?_
     | refine o_loads tabOk (by first | assumption | exact Rds.cons _ (by assumption) | exact Rds.cons _ (Rds.cons _ (by assumption)) | exact own_rds 0 rfl | exact own_rds 1 rfl | exact own_rds 2 rfl) rfl rfl rfl (by first | exact sg_w _ | exact sg_b _ | exact sg_h _ (by omega) | exact cx_pc _ | exact cx_r _ (by omega) | exact d_k _ _ _ | exact d_n _ _ _ | rfl) (by decide) ?_)
     | (refine z_ldw tabOk rfl rfl ?_; first
     | refine o_loadwm tabOk rfl rfl rfl (by repeat' (first | exact List.mem_cons_self | apply List.mem_cons_of_mem)) (by first | exact sg_len _ | exact cx_len _ | exact d_len _ _ _ | (simp only [sg_len, cx_len, d_len]) | rfl) (by decide) ?_))
     | (refine z_isstore ?_; first
     | (refine o_storew_at rfl 0 tabOk rfl rfl rfl rfl (cx_len _) (cx_one _) (by rw [sg_len, cx_len]; decide) (sg_set_c _ _) ?_)
     | (refine o_storew_at rfl 1 tabOk rfl rfl rfl rfl (cx_len _) (cx_one _) (by rw [sg_len, cx_len]; decide) (sg_set_c _ _) ?_)
     | (refine o_storew_at rfl 2 tabOk rfl rfl rfl rfl (cx_len _) (cx_one _) (by rw [sg_len, cx_len]; decide) (sg_set_c _ _) ?_)
     | (refine o_storew_at rfl 3 tabOk rfl rfl rfl rfl (cx_len _) (cx_one _) (by rw [sg_len, cx_len]; decide) (sg_set_c _ _) ?_)
     | refine o_storebk 0 tabOk rfl rfl rfl rfl (by first | exact sg_len _ | exact cx_len _ | exact d_len _ _ _ | (simp only [sg_len, cx_len, d_len]) | rfl) (by first | exact sg_one _ | exact cx_one _ | exact d_one _ _ _ | rfl) (by first | exact sg_len _ | exact cx_len _ | exact d_len _ _ _ | (simp only [sg_len, cx_len, d_len]) | rfl) ?_
     | refine o_storebk 1 tabOk rfl rfl rfl rfl (by first | exact sg_len _ | exact cx_len _ | exact d_len _ _ _ | (simp only [sg_len, cx_len, d_len]) | rfl) (by first | exact sg_one _ | exact cx_one _ | exact d_one _ _ _ | rfl) (by first | exact sg_len _ | exact cx_len _ | exact d_len _ _ _ | (simp only [sg_len, cx_len, d_len]) | rfl) ?_
     | refine o_storek 0 tabOk rfl rfl rfl rfl rfl rfl (by first | exact sg_w _ | exact sg_b _ | exact sg_h _ (by omega) | exact cx_pc _ | exact cx_r _ (by omega) | exact d_k _ _ _ | exact d_n _ _ _ | rfl) (by first | exact sg_set_w _ _ | exact sg_set_b _ _ | exact sg_set_h _ (by omega) _ | exact cx_set_pc _ _ | exact cx_set_r _ (by omega) _ | rfl) ?_
     | (refine o_storewk 0 tabOk rfl rfl rfl rfl (cx_len _) (cx_one _) (by rw [sg_len, cx_len]; decide) (sg_set_c _ _) ?_)
     | (refine z_stw rfl ?_; first
     | ((refine z_sti 0 rfl rfl ?_; refine o_storeb0 rfl tabOk rfl rfl rfl (by first | exact sg_len _ | exact cx_len _ | exact d_len _ _ _ | (simp only [sg_len, cx_len, d_len]) | rfl) (by first | exact sg_one _ | exact cx_one _ | exact d_one _ _ _ | rfl) (by first | exact sg_len _ | exact cx_len _ | exact d_len _ _ _ | (simp only [sg_len, cx_len, d_len]) | rfl) ?_))
     | ((refine z_sti 1 rfl rfl ?_; refine o_storeb1 rfl tabOk rfl rfl rfl (by first | exact sg_len _ | exact cx_len _ | exact d_len _ _ _ | (simp only [sg_len, cx_len, d_len]) | rfl) (by first | exact sg_one _ | exact cx_one _ | exact d_one _ _ _ | rfl) (by first | exact sg_len _ | exact cx_len _ | exact d_len _ _ _ | (simp only [sg_len, cx_len, d_len]) | rfl) ?_))
     | ((refine z_sti 2 rfl rfl ?_; refine o_storeb2 rfl tabOk rfl rfl rfl (by first | exact sg_len _ | exact cx_len _ | exact d_len _ _ _ | (simp only [sg_len, cx_len, d_len]) | rfl) (by first | exact sg_one _ | exact cx_one _ | exact d_one _ _ _ | rfl) (by first | exact sg_len _ | exact cx_len _ | exact d_len _ _ _ | (simp only [sg_len, cx_len, d_len]) | rfl) ?_))
     | ((refine z_sti 3 rfl rfl ?_; refine o_storeb3 rfl tabOk rfl rfl rfl (by first | exact sg_len _ | exact cx_len _ | exact d_len _ _ _ | (simp only [sg_len, cx_len, d_len]) | rfl) (by first | exact sg_one _ | exact cx_one _ | exact d_one _ _ _ | rfl) (by first | exact sg_len _ | exact cx_len _ | exact d_len _ _ _ | (simp only [sg_len, cx_len, d_len]) | rfl) ?_))
     | ((refine z_sti 4 rfl rfl ?_; refine o_storeb4 rfl tabOk rfl rfl rfl (by first | exact sg_len _ | exact cx_len _ | exact d_len _ _ _ | (simp only [sg_len, cx_len, d_len]) | rfl) (by first | exact sg_one _ | exact cx_one _ | exact d_one _ _ _ | rfl) (by first | exact sg_len _ | exact cx_len _ | exact d_len _ _ _ | (simp only [sg_len, cx_len, d_len]) | rfl) ?_))
     | ((refine z_sti 5 rfl rfl ?_; refine o_storeb5 rfl tabOk rfl rfl rfl (by first | exact sg_len _ | exact cx_len _ | exact d_len _ _ _ | (simp only [sg_len, cx_len, d_len]) | rfl) (by first | exact sg_one _ | exact cx_one _ | exact d_one _ _ _ | rfl) (by first | exact sg_len _ | exact cx_len _ | exact d_len _ _ _ | (simp only [sg_len, cx_len, d_len]) | rfl) ?_))
     | ((refine z_sti 6 rfl rfl ?_; refine o_storeb6 rfl tabOk rfl rfl rfl (by first | exact sg_len _ | exact cx_len _ | exact d_len _ _ _ | (simp only [sg_len, cx_len, d_len]) | rfl) (by first | exact sg_one _ | exact cx_one _ | exact d_one _ _ _ | rfl) (by first | exact sg_len _ | exact cx_len _ | exact d_len _ _ _ | (simp only [sg_len, cx_len, d_len]) | rfl) ?_)))
     | (refine z_st1 rfl rfl ?_; first
     | refine o_store rfl tabOk rfl rfl rfl rfl rfl (by first | exact sg_w _ | exact sg_b _ | exact sg_h _ (by omega) | exact cx_pc _ | exact cx_r _ (by omega) | exact d_k _ _ _ | exact d_n _ _ _ | rfl) (by first | exact sg_set_w _ _ | exact sg_set_b _ _ | exact sg_set_h _ (by omega) _ | exact cx_set_pc _ _ | exact cx_set_r _ (by omega) _ | rfl) ?_
     | ((refine z_sti 1 rfl rfl ?_; refine o_store1 rfl tabOk rfl rfl rfl rfl rfl (by first | exact sg_w _ | exact sg_b _ | exact sg_h _ (by omega) | exact cx_pc _ | exact cx_r _ (by omega) | exact d_k _ _ _ | exact d_n _ _ _ | rfl) (by first | exact sg_set_w _ _ | exact sg_set_b _ _ | exact sg_set_h _ (by omega) _ | exact cx_set_pc _ _ | exact cx_set_r _ (by omega) _ | rfl) ?_))
     | ((refine z_sti 2 rfl rfl ?_; refine o_store2 rfl tabOk rfl rfl rfl rfl rfl (by first | exact sg_w _ | exact sg_b _ | exact sg_h _ (by omega) | exact cx_pc _ | exact cx_r _ (by omega) | exact d_k _ _ _ | exact d_n _ _ _ | rfl) (by first | exact sg_set_w _ _ | exact sg_set_b _ _ | exact sg_set_h _ (by omega) _ | exact cx_set_pc _ _ | exact cx_set_r _ (by omega) _ | rfl) ?_))
     | ((refine z_sti 3 rfl rfl ?_; refine o_store3 rfl tabOk rfl rfl rfl rfl rfl (by first | exact sg_w _ | exact sg_b _ | exact sg_h _ (by omega) | exact cx_pc _ | exact cx_r _ (by omega) | exact d_k _ _ _ | exact d_n _ _ _ | rfl) (by first | exact sg_set_w _ _ | exact sg_set_b _ _ | exact sg_set_h _ (by omega) _ | exact cx_set_pc _ _ | exact cx_set_r _ (by omega) _ | rfl) ?_))
     | ((refine z_sti 4 rfl rfl ?_; refine o_store4 rfl tabOk rfl rfl rfl rfl rfl (by first | exact sg_w _ | exact sg_b _ | exact sg_h _ (by omega) | exact cx_pc _ | exact cx_r _ (by omega) | exact d_k _ _ _ | exact d_n _ _ _ | rfl) (by first | exact sg_set_w _ _ | exact sg_set_b _ _ | exact sg_set_h _ (by omega) _ | exact cx_set_pc _ _ | exact cx_set_r _ (by omega) _ | rfl) ?_))
     | ((refine z_sti 5 rfl rfl ?_; refine o_store5 rfl tabOk rfl rfl rfl rfl rfl (by first | exact sg_w _ | exact sg_b _ | exact sg_h _ (by omega) | exact cx_pc _ | exact cx_r _ (by omega) | exact d_k _ _ _ | exact d_n _ _ _ | rfl) (by first | exact sg_set_w _ _ | exact sg_set_b _ _ | exact sg_set_h _ (by omega) _ | exact cx_set_pc _ _ | exact cx_set_r _ (by omega) _ | rfl) ?_))
     | ((refine z_sti 6 rfl rfl ?_; refine o_store6 rfl tabOk rfl rfl rfl rfl rfl (by first | exact sg_w _ | exact sg_b _ | exact sg_h _ (by omega) | exact cx_pc _ | exact cx_r _ (by omega) | exact d_k _ _ _ | exact d_n _ _ _ | rfl) (by first | exact sg_set_w _ _ | exact sg_set_b _ _ | exact sg_set_h _ (by omega) _ | exact cx_set_pc _ _ | exact cx_set_r _ (by omega) _ | rfl) ?_))))
     | (refine z_iscall ?_; first
     | ((refine z_iscallf 10 ?_; refine o_fn rfl Tryd.func10 rfl rfl rfl (waits_fn _ _) (by decide) ?_)))
     | (refine z_ispick ?_; first
     | (refine o_pick1 rfl (by first | with_reducible rfl | with_reducible assumption | ((with_reducible refine decide_eq_true ?_); first | with_reducible rfl | with_reducible assumption | omega)) rfl (by decide) ?_)
     | (refine o_pick0 rfl (by first | with_reducible rfl | with_reducible assumption | ((with_reducible refine decide_eq_false ?_); first | with_reducible assumption | omega)) rfl (by decide) ?_)
     | (refine o_pick1 rfl (by first | (simp only [Bool.not_eq_true', decide_eq_false_iff_not]; omega) | (with_reducible assumption) | (rw [decide_eq_false] <;> (first | omega | with_reducible rfl)) | (rw [decide_eq_true] <;> (first | omega | with_reducible rfl)) | (simp; done) | (simp; omega)) rfl (by decide) ?_)
     | (refine o_pick0 rfl (by first | (simp only [Bool.not_eq_false', decide_eq_true_eq]; omega) | (with_reducible assumption) | (rw [decide_eq_false] <;> (first | omega | with_reducible rfl)) | (rw [decide_eq_true] <;> (first | omega | with_reducible rfl)) | (simp; done) | (simp; omega)) rfl (by decide) ?_))
     | (refine z_isix ?_; first
     | refine o_index0 tabOk rfl rfl rfl rfl (by omega) (by omega) (by decide) ?_
     | refine o_index1 tabOk rfl rfl rfl rfl (by omega) (by omega) (by decide) ?_
     | refine o_indexsk tabOk rfl rfl rfl rfl (by omega) (by omega) (by decide) ?_
     | refine o_indexs1 tabOk (by first | assumption) rfl rfl rfl rfl (by omega) (by omega) (by decide) ?_)
     | refine o_move rfl (by decide) ?_
     | refine o_assign rfl (by decide) ?_
     | refine o_nil rfl (by decide) ?_
     | refine o_extract rfl rfl (by decide) ?_
     | refine o_not rfl (by decide) ?_
     | refine o_field0 tabOk rfl rfl rfl rfl rfl (by decide) ?_
     | refine o_field tabOk rfl rfl rfl rfl rfl (by decide) ?_
     | refine o_conv tabOk rfl rfl rfl (by decide) ?_))
  obtain ⟨h1, h8, hl⟩ := hz hw0
  clear hz
  have e1 : (!s.b) = true := by rw [hb]; rfl
  have e2 : decide (s.w ≠ 0) = true := by simp [hw0]
  by_cases hh : s.h (tz s.w).toNat = 0
  · have e3 : decide (s.h (tz s.w).toNat ≠ 0) = false := by simp [hh]
    by_cases h9 : tz s.w = 8
    · have hh' : s.h 8 = 0 := by rw [h9] at hh; exact hh
      have hl' := hl h9
      have hn : s.next c = (s.low, 0, 0, c) := by simp [Sg.next, e0, hb, hw0, hh', h9]
      rw [hn]
      have e4 : decide (tz s.w ≠ 8) = false := by simp [h9]
      have f1 : (!s.low.b) = true := e1
      have f2 : decide (s.low.w ≠ 0) = false := by simp [hl']
      clear hn hb hh hh' hl h9
      repeat' (first
       | (refine s_is ?_; first
       | (refine s_isw ?_; first
       | (refine s_isloop ?_; first
       | ((rename_i g2 g3 g4; refine c_loop (X := Sg) (fun y => s = y ∨ y = s.low) (fun _ => [(2, .pointer (some ⟨g2, 0, none⟩)), (3, .pointer (some ⟨g3, 0, none⟩)), (4, .pointer (some ⟨g4, 0, none⟩)), (5, .pointer (some ⟨g, 0, none⟩))]) (fun y => cells g 40 (dCs 0 0 Cx.zero) :: cells g4 30 Sg.zero.cs :: cells g3 26 c.cs :: cells g2 30 y.cs :: fr) (fun y => if y.w = 0 then 0 else 1) s (.inl rfl) ⟨rfl, rfl, rfl, rfl, trivial⟩ (fun w h => h) (fun y hy => ?_); rcases hy with rfl | rfl <;> refine hold ?_)))
       | refine c_seq ?_
       | refine c_block ?_
       | refine c_region ?_
       | refine c_mixed mixed (by kernel_rfl) ?_
       | refine c_skip ?_
       | refine c_ret ?_
       | refine c_exit ?_
       | (refine s_iscond ?_; first
       | (refine c_true rfl (by first | with_reducible rfl | with_reducible assumption | ((with_reducible refine decide_eq_true ?_); first | with_reducible rfl | with_reducible assumption | omega)) ?_)
       | (refine c_false rfl (by first | with_reducible rfl | with_reducible assumption | ((with_reducible refine decide_eq_false ?_); first | with_reducible assumption | omega)) ?_)
       | (refine c_true rfl (by first | (simp only [Bool.not_eq_true', decide_eq_false_iff_not]; omega) | (with_reducible assumption) | (rw [decide_eq_false] <;> (first | omega | with_reducible rfl)) | (rw [decide_eq_true] <;> (first | omega | with_reducible rfl)) | (simp; done) | (simp; omega)) ?_)
       | (refine c_false rfl (by first | (simp only [Bool.not_eq_false', decide_eq_true_eq]; omega) | (with_reducible assumption) | (rw [decide_eq_false] <;> (first | omega | with_reducible rfl)) | (rw [decide_eq_true] <;> (first | omega | with_reducible rfl)) | (simp; done) | (simp; omega)) ?_)
       | refine c_cond rfl (fun hc => ?_) (fun hc => ?_)
       | refine c_condb rfl (fun hc => ?_) (fun hc => ?_)))
       | refine x_then ?_
       | refine x_then_ret ?_
       | refine x_then_exit ?_
       | refine x_block _ ?_
       | refine x_block_ret _ ?_
       | refine x_block_exit _ ?_
       | refine x_block_past (by decide) ?_
       | refine z_tailm ?_)
       | (refine z_isg1 ?_; first
       | refine z_skipu (by decide) rfl rfl ?_
       | (refine z_want1 rfl rfl (by first | with_reducible rfl | with_reducible assumption | ((with_reducible refine decide_eq_true ?_); first | with_reducible rfl | with_reducible assumption | omega)) ?_)
       | (refine z_skip1 (by decide) rfl rfl (by first | with_reducible rfl | with_reducible assumption | ((with_reducible refine decide_eq_false ?_); first | with_reducible assumption | omega)) ?_)
       | (refine z_want1 rfl rfl (by first | (simp only [Bool.not_eq_true', decide_eq_false_iff_not]; omega) | (with_reducible assumption) | (rw [decide_eq_false] <;> (first | omega | with_reducible rfl)) | (rw [decide_eq_true] <;> (first | omega | with_reducible rfl)) | (simp; done) | (simp; omega)) ?_)
       | (refine z_skip1 (by decide) rfl rfl (by first | (simp only [Bool.not_eq_false', decide_eq_true_eq]; omega) | (with_reducible assumption) | (rw [decide_eq_false] <;> (first | omega | with_reducible rfl)) | (rw [decide_eq_true] <;> (first | omega | with_reducible rfl)) | (simp; done) | (simp; omega)) ?_)
       | refine z_guard1 (by decide) rfl rfl (fun hc => ?_) (fun hc => ?_)
       | refine z_guardb (by decide) rfl rfl (fun hc => ?_) (fun hc => ?_))
       | (refine z_isnil ?_; first
       | refine z_keep1 ?_
       | refine z_keep2 ?_
       | refine z_list ?_
       | refine z_mixed ?_
       | refine z_mono0 ?_
       | refine z_mono1 (by decide) fun g => ?_
       | refine z_mono2 (by decide) (by decide) fun g g' => ?_
       | refine z_mixedx ?_
       | refine z_quiet ?_)
       | (refine z_isop ?_; first
       | refine o_boxa rfl rfl (by decide) fun g => ?_
       | refine o_alloca (e := 30) (vs := Sg.zero.cs) rfl (by kernel_rfl) (by decide) fun g => ?_
       | refine o_alloca (e := 26) (vs := Cx.zero.cs) rfl (by kernel_rfl) (by decide) fun g => ?_
       | refine o_alloca (e := 40) (vs := dCs 0 0 Cx.zero) rfl (by kernel_rfl) (by decide) fun g => ?_
       | refine o_build (t := 26) (v := .agg Cx.zero.cs.toArray) rfl (fun _ => by kernel_rfl) (by decide) ?_
       | refine o_buildf (t := 40) (zs := dCs 0 0 Cx.zero) tabOk rfl rfl (by kernel_rfl) rfl (d_fill _ _ _) (by decide) ?_
       | refine o_buildf (t := 40) (zs := dCs 0 0 Cx.zero) tabOk rfl rfl (by kernel_rfl) rfl (d_fill2 _) (by decide) ?_
       | (refine z_isbin ?_; first
       | (refine z_isb .neq ?_; first
       | refine o_ne rfl rfl (by decide) ?_
       | refine o_bne tabOk rfl rfl rfl (by decide) ?_
       | refine o_pne tabOk rfl rfl (by decide) ?_)
       | (refine z_isb .andNot ?_; first
       | refine o_andNot rfl rfl (by decide) ?_)
       | (refine z_isb .shl ?_; first
       | refine o_shl rfl rfl (by omega) (by decide) ?_))
       | (refine z_isload ?_; first
       | refine o_loadp tabOk rfl rfl rfl 0 rfl (cx_len _) (sg_c _) (by decide) ?_
       | refine o_loadp tabOk rfl rfl rfl 1 rfl (cx_len _) (sg_c _) (by decide) ?_
       | refine o_loadp tabOk rfl rfl rfl 2 rfl (cx_len _) (sg_c _) (by decide) ?_
       | refine o_loadp tabOk rfl rfl rfl 3 rfl (cx_len _) (sg_c _) (by decide) ?_
       | (refine z_ld1 tabOk rfl rfl ?_; first
       | refine o_loadm tabOk rfl rfl rfl (by repeat' (first | exact List.mem_cons_self | apply List.mem_cons_of_mem)) (by first | exact sg_w _ | exact sg_b _ | exact sg_h _ (by omega) | exact cx_pc _ | exact cx_r _ (by omega) | exact d_k _ _ _ | exact d_n _ _ _ | rfl) (by decide) ?_
       | refine o_loads tabOk (by first | assumption | exact Rds.cons _ (by assumption) | exact Rds.cons _ (Rds.cons _ (by assumption)) | exact own_rds 0 rfl | exact own_rds 1 rfl | exact own_rds 2 rfl) rfl rfl rfl (by first | exact sg_w _ | exact sg_b _ | exact sg_h _ (by omega) | exact cx_pc _ | exact cx_r _ (by omega) | exact d_k _ _ _ | exact d_n _ _ _ | rfl) (by decide) ?_)
       | (refine z_ldw tabOk rfl rfl ?_; first
       | refine o_loadwm tabOk rfl rfl rfl (by repeat' (first | exact List.mem_cons_self | apply List.mem_cons_of_mem)) (by first | exact sg_len _ | exact cx_len _ | exact d_len _ _ _ | (simp only [sg_len, cx_len, d_len]) | rfl) (by decide) ?_))
       | (refine z_isstore ?_; first
       | (refine o_storew_at rfl 0 tabOk rfl rfl rfl rfl (cx_len _) (cx_one _) (by rw [sg_len, cx_len]; decide) (sg_set_c _ _) ?_)
       | (refine o_storew_at rfl 1 tabOk rfl rfl rfl rfl (cx_len _) (cx_one _) (by rw [sg_len, cx_len]; decide) (sg_set_c _ _) ?_)
       | (refine o_storew_at rfl 2 tabOk rfl rfl rfl rfl (cx_len _) (cx_one _) (by rw [sg_len, cx_len]; decide) (sg_set_c _ _) ?_)
       | (refine o_storew_at rfl 3 tabOk rfl rfl rfl rfl (cx_len _) (cx_one _) (by rw [sg_len, cx_len]; decide) (sg_set_c _ _) ?_)
       | refine o_storebk 0 tabOk rfl rfl rfl rfl (by first | exact sg_len _ | exact cx_len _ | exact d_len _ _ _ | (simp only [sg_len, cx_len, d_len]) | rfl) (by first | exact sg_one _ | exact cx_one _ | exact d_one _ _ _ | rfl) (by first | exact sg_len _ | exact cx_len _ | exact d_len _ _ _ | (simp only [sg_len, cx_len, d_len]) | rfl) ?_
       | refine o_storebk 1 tabOk rfl rfl rfl rfl (by first | exact sg_len _ | exact cx_len _ | exact d_len _ _ _ | (simp only [sg_len, cx_len, d_len]) | rfl) (by first | exact sg_one _ | exact cx_one _ | exact d_one _ _ _ | rfl) (by first | exact sg_len _ | exact cx_len _ | exact d_len _ _ _ | (simp only [sg_len, cx_len, d_len]) | rfl) ?_
       | refine o_storek 0 tabOk rfl rfl rfl rfl rfl rfl (by first | exact sg_w _ | exact sg_b _ | exact sg_h _ (by omega) | exact cx_pc _ | exact cx_r _ (by omega) | exact d_k _ _ _ | exact d_n _ _ _ | rfl) (by first | exact sg_set_w _ _ | exact sg_set_b _ _ | exact sg_set_h _ (by omega) _ | exact cx_set_pc _ _ | exact cx_set_r _ (by omega) _ | rfl) ?_
       | (refine o_storewk 0 tabOk rfl rfl rfl rfl (cx_len _) (cx_one _) (by rw [sg_len, cx_len]; decide) (sg_set_c _ _) ?_)
       | (refine z_stw rfl ?_; first
       | ((refine z_sti 0 rfl rfl ?_; refine o_storeb0 rfl tabOk rfl rfl rfl (by first | exact sg_len _ | exact cx_len _ | exact d_len _ _ _ | (simp only [sg_len, cx_len, d_len]) | rfl) (by first | exact sg_one _ | exact cx_one _ | exact d_one _ _ _ | rfl) (by first | exact sg_len _ | exact cx_len _ | exact d_len _ _ _ | (simp only [sg_len, cx_len, d_len]) | rfl) ?_))
       | ((refine z_sti 1 rfl rfl ?_; refine o_storeb1 rfl tabOk rfl rfl rfl (by first | exact sg_len _ | exact cx_len _ | exact d_len _ _ _ | (simp only [sg_len, cx_len, d_len]) | rfl) (by first | exact sg_one _ | exact cx_one _ | exact d_one _ _ _ | rfl) (by first | exact sg_len _ | exact cx_len _ | exact d_len _ _ _ | (simp only [sg_len, cx_len, d_len]) | rfl) ?_))
       | ((refine z_sti 2 rfl rfl ?_; refine o_storeb2 rfl tabOk rfl rfl rfl (by first | exact sg_len _ | exact cx_len _ | exact d_len _ _ _ | (simp only [sg_len, cx_len, d_len]) | rfl) (by first | exact sg_one _ | exact cx_one _ | exact d_one _ _ _ | rfl) (by first | exact sg_len _ | exact cx_len _ | exact d_len _ _ _ | (simp only [sg_len, cx_len, d_len]) | rfl) ?_))
       | ((refine z_sti 3 rfl rfl ?_; refine o_storeb3 rfl tabOk rfl rfl rfl (by first | exact sg_len _ | exact cx_len _ | exact d_len _ _ _ | (simp only [sg_len, cx_len, d_len]) | rfl) (by first | exact sg_one _ | exact cx_one _ | exact d_one _ _ _ | rfl) (by first | exact sg_len _ | exact cx_len _ | exact d_len _ _ _ | (simp only [sg_len, cx_len, d_len]) | rfl) ?_))
       | ((refine z_sti 4 rfl rfl ?_; refine o_storeb4 rfl tabOk rfl rfl rfl (by first | exact sg_len _ | exact cx_len _ | exact d_len _ _ _ | (simp only [sg_len, cx_len, d_len]) | rfl) (by first | exact sg_one _ | exact cx_one _ | exact d_one _ _ _ | rfl) (by first | exact sg_len _ | exact cx_len _ | exact d_len _ _ _ | (simp only [sg_len, cx_len, d_len]) | rfl) ?_))
       | ((refine z_sti 5 rfl rfl ?_; refine o_storeb5 rfl tabOk rfl rfl rfl (by first | exact sg_len _ | exact cx_len _ | exact d_len _ _ _ | (simp only [sg_len, cx_len, d_len]) | rfl) (by first | exact sg_one _ | exact cx_one _ | exact d_one _ _ _ | rfl) (by first | exact sg_len _ | exact cx_len _ | exact d_len _ _ _ | (simp only [sg_len, cx_len, d_len]) | rfl) ?_))
       | ((refine z_sti 6 rfl rfl ?_; refine o_storeb6 rfl tabOk rfl rfl rfl (by first | exact sg_len _ | exact cx_len _ | exact d_len _ _ _ | (simp only [sg_len, cx_len, d_len]) | rfl) (by first | exact sg_one _ | exact cx_one _ | exact d_one _ _ _ | rfl) (by first | exact sg_len _ | exact cx_len _ | exact d_len _ _ _ | (simp only [sg_len, cx_len, d_len]) | rfl) ?_)))
       | (refine z_st1 rfl rfl ?_; first
       | refine o_store rfl tabOk rfl rfl rfl rfl rfl (by first | exact sg_w _ | exact sg_b _ | exact sg_h _ (by omega) | exact cx_pc _ | exact cx_r _ (by omega) | exact d_k _ _ _ | exact d_n _ _ _ | rfl) (by first | exact sg_set_w _ _ | exact sg_set_b _ _ | exact sg_set_h _ (by omega) _ | exact cx_set_pc _ _ | exact cx_set_r _ (by omega) _ | rfl) ?_
       | ((refine z_sti 1 rfl rfl ?_; refine o_store1 rfl tabOk rfl rfl rfl rfl rfl (by first | exact sg_w _ | exact sg_b _ | exact sg_h _ (by omega) | exact cx_pc _ | exact cx_r _ (by omega) | exact d_k _ _ _ | exact d_n _ _ _ | rfl) (by first | exact sg_set_w _ _ | exact sg_set_b _ _ | exact sg_set_h _ (by omega) _ | exact cx_set_pc _ _ | exact cx_set_r _ (by omega) _ | rfl) ?_))
       | ((refine z_sti 2 rfl rfl ?_; refine o_store2 rfl tabOk rfl rfl rfl rfl rfl (by first | exact sg_w _ | exact sg_b _ | exact sg_h _ (by omega) | exact cx_pc _ | exact cx_r _ (by omega) | exact d_k _ _ _ | exact d_n _ _ _ | rfl) (by first | exact sg_set_w _ _ | exact sg_set_b _ _ | exact sg_set_h _ (by omega) _ | exact cx_set_pc _ _ | exact cx_set_r _ (by omega) _ | rfl) ?_))
       | ((refine z_sti 3 rfl rfl ?_; refine o_store3 rfl tabOk rfl rfl rfl rfl rfl (by first | exact sg_w _ | exact sg_b _ | exact sg_h _ (by omega) | exact cx_pc _ | exact cx_r _ (by omega) | exact d_k _ _ _ | exact d_n _ _ _ | rfl) (by first | exact sg_set_w _ _ | exact sg_set_b _ _ | exact sg_set_h _ (by omega) _ | exact cx_set_pc _ _ | exact cx_set_r _ (by omega) _ | rfl) ?_))
       | ((refine z_sti 4 rfl rfl ?_; refine o_store4 rfl tabOk rfl rfl rfl rfl rfl (by first | exact sg_w _ | exact sg_b _ | exact sg_h _ (by omega) | exact cx_pc _ | exact cx_r _ (by omega) | exact d_k _ _ _ | exact d_n _ _ _ | rfl) (by first | exact sg_set_w _ _ | exact sg_set_b _ _ | exact sg_set_h _ (by omega) _ | exact cx_set_pc _ _ | exact cx_set_r _ (by omega) _ | rfl) ?_))
       | ((refine z_sti 5 rfl rfl ?_; refine o_store5 rfl tabOk rfl rfl rfl rfl rfl (by first | exact sg_w _ | exact sg_b _ | exact sg_h _ (by omega) | exact cx_pc _ | exact cx_r _ (by omega) | exact d_k _ _ _ | exact d_n _ _ _ | rfl) (by first | exact sg_set_w _ _ | exact sg_set_b _ _ | exact sg_set_h _ (by omega) _ | exact cx_set_pc _ _ | exact cx_set_r _ (by omega) _ | rfl) ?_))
       | ((refine z_sti 6 rfl rfl ?_; refine o_store6 rfl tabOk rfl rfl rfl rfl rfl (by first | exact sg_w _ | exact sg_b _ | exact sg_h _ (by omega) | exact cx_pc _ | exact cx_r _ (by omega) | exact d_k _ _ _ | exact d_n _ _ _ | rfl) (by first | exact sg_set_w _ _ | exact sg_set_b _ _ | exact sg_set_h _ (by omega) _ | exact cx_set_pc _ _ | exact cx_set_r _ (by omega) _ | rfl) ?_))))
       | (refine z_iscall ?_; first
       | ((refine z_iscallf 10 ?_; refine o_fn rfl Tryd.func10 rfl rfl rfl (waits_fn _ _) (by decide) ?_)))
       | (refine z_ispick ?_; first
       | (refine o_pick1 rfl (by first | with_reducible rfl | with_reducible assumption | ((with_reducible refine decide_eq_true ?_); first | with_reducible rfl | with_reducible assumption | omega)) rfl (by decide) ?_)
       | (refine o_pick0 rfl (by first | with_reducible rfl | with_reducible assumption | ((with_reducible refine decide_eq_false ?_); first | with_reducible assumption | omega)) rfl (by decide) ?_)
       | (refine o_pick1 rfl (by first | (simp only [Bool.not_eq_true', decide_eq_false_iff_not]; omega) | (with_reducible assumption) | (rw [decide_eq_false] <;> (first | omega | with_reducible rfl)) | (rw [decide_eq_true] <;> (first | omega | with_reducible rfl)) | (simp; done) | (simp; omega)) rfl (by decide) ?_)
       | (refine o_pick0 rfl (by first | (simp only [Bool.not_eq_false', decide_eq_true_eq]; omega) | (with_reducible assumption) | (rw [decide_eq_false] <;> (first | omega | with_reducible rfl)) | (rw [decide_eq_true] <;> (first | omega | with_reducible rfl)) | (simp; done) | (simp; omega)) rfl (by decide) ?_))
       | (refine z_isix ?_; first
       | refine o_index0 tabOk rfl rfl rfl rfl (by omega) (by omega) (by decide) ?_
       | refine o_index1 tabOk rfl rfl rfl rfl (by omega) (by omega) (by decide) ?_
       | refine o_indexsk tabOk rfl rfl rfl rfl (by omega) (by omega) (by decide) ?_
       | refine o_indexs1 tabOk (by first | assumption) rfl rfl rfl rfl (by omega) (by omega) (by decide) ?_)
       | refine o_move rfl (by decide) ?_
       | refine o_assign rfl (by decide) ?_
       | refine o_nil rfl (by decide) ?_
       | refine o_extract rfl rfl (by decide) ?_
       | refine o_not rfl (by decide) ?_
       | refine o_field0 tabOk rfl rfl rfl rfl rfl (by decide) ?_
       | refine o_field tabOk rfl rfl rfl rfl rfl (by decide) ?_
       | refine o_conv tabOk rfl rfl rfl (by decide) ?_))
      · refine Hold.go ?_
        repeat' (first
         | (refine s_is ?_; first
         | (refine s_isagain ?_; first
         | (exact c_again s.low (.inr rfl) (by rw [if_pos hl', if_neg hw0]; decide) ⟨rfl, rfl, rfl, rfl, trivial⟩ (fun w h => h)))
         | (refine s_isw ?_; first
         | refine c_seq ?_
         | refine c_block ?_
         | refine c_region ?_
         | refine c_mixed mixed (by kernel_rfl) ?_
         | refine c_skip ?_
         | refine c_ret ?_
         | refine c_exit ?_
         | (refine s_iscond ?_; first
         | (refine c_true rfl (by first | with_reducible rfl | with_reducible assumption | ((with_reducible refine decide_eq_true ?_); first | with_reducible rfl | with_reducible assumption | omega)) ?_)
         | (refine c_false rfl (by first | with_reducible rfl | with_reducible assumption | ((with_reducible refine decide_eq_false ?_); first | with_reducible assumption | omega)) ?_)
         | (refine c_true rfl (by first | (simp only [Bool.not_eq_true', decide_eq_false_iff_not]; omega) | (with_reducible assumption) | (rw [decide_eq_false] <;> (first | omega | with_reducible rfl)) | (rw [decide_eq_true] <;> (first | omega | with_reducible rfl)) | (simp; done) | (simp; omega)) ?_)
         | (refine c_false rfl (by first | (simp only [Bool.not_eq_false', decide_eq_true_eq]; omega) | (with_reducible assumption) | (rw [decide_eq_false] <;> (first | omega | with_reducible rfl)) | (rw [decide_eq_true] <;> (first | omega | with_reducible rfl)) | (simp; done) | (simp; omega)) ?_)
         | refine c_cond rfl (fun hc => ?_) (fun hc => ?_)
         | refine c_condb rfl (fun hc => ?_) (fun hc => ?_)))
         | refine x_then ?_
         | refine x_then_ret ?_
         | refine x_then_exit ?_
         | refine x_block _ ?_
         | refine x_block_ret _ ?_
         | refine x_block_exit _ ?_
         | refine x_block_past (by decide) ?_
         | refine z_tailm ?_)
         | (refine z_isg1 ?_; first
         | refine z_skipu (by decide) rfl rfl ?_
         | (refine z_want1 rfl rfl (by first | with_reducible rfl | with_reducible assumption | ((with_reducible refine decide_eq_true ?_); first | with_reducible rfl | with_reducible assumption | omega)) ?_)
         | (refine z_skip1 (by decide) rfl rfl (by first | with_reducible rfl | with_reducible assumption | ((with_reducible refine decide_eq_false ?_); first | with_reducible assumption | omega)) ?_)
         | (refine z_want1 rfl rfl (by first | (simp only [Bool.not_eq_true', decide_eq_false_iff_not]; omega) | (with_reducible assumption) | (rw [decide_eq_false] <;> (first | omega | with_reducible rfl)) | (rw [decide_eq_true] <;> (first | omega | with_reducible rfl)) | (simp; done) | (simp; omega)) ?_)
         | (refine z_skip1 (by decide) rfl rfl (by first | (simp only [Bool.not_eq_false', decide_eq_true_eq]; omega) | (with_reducible assumption) | (rw [decide_eq_false] <;> (first | omega | with_reducible rfl)) | (rw [decide_eq_true] <;> (first | omega | with_reducible rfl)) | (simp; done) | (simp; omega)) ?_)
         | refine z_guard1 (by decide) rfl rfl (fun hc => ?_) (fun hc => ?_)
         | refine z_guardb (by decide) rfl rfl (fun hc => ?_) (fun hc => ?_))
         | (refine z_isnil ?_; first
         | refine z_keep1 ?_
         | refine z_keep2 ?_
         | refine z_list ?_
         | refine z_mixed ?_
         | refine z_mono0 ?_
         | refine z_mono1 (by decide) fun g => ?_
         | refine z_mono2 (by decide) (by decide) fun g g' => ?_
         | refine z_mixedx ?_
         | refine z_quiet ?_)
         | (refine z_isop ?_; first
         | refine o_boxa rfl rfl (by decide) fun g => ?_
         | refine o_alloca (e := 30) (vs := Sg.zero.cs) rfl (by kernel_rfl) (by decide) fun g => ?_
         | refine o_alloca (e := 26) (vs := Cx.zero.cs) rfl (by kernel_rfl) (by decide) fun g => ?_
         | refine o_alloca (e := 40) (vs := dCs 0 0 Cx.zero) rfl (by kernel_rfl) (by decide) fun g => ?_
         | refine o_build (t := 26) (v := .agg Cx.zero.cs.toArray) rfl (fun _ => by kernel_rfl) (by decide) ?_
         | refine o_buildf (t := 40) (zs := dCs 0 0 Cx.zero) tabOk rfl rfl (by kernel_rfl) rfl (d_fill _ _ _) (by decide) ?_
         | refine o_buildf (t := 40) (zs := dCs 0 0 Cx.zero) tabOk rfl rfl (by kernel_rfl) rfl (d_fill2 _) (by decide) ?_
         | (refine z_isbin ?_; first
         | (refine z_isb .neq ?_; first
         | refine o_ne rfl rfl (by decide) ?_
         | refine o_bne tabOk rfl rfl rfl (by decide) ?_
         | refine o_pne tabOk rfl rfl (by decide) ?_)
         | (refine z_isb .andNot ?_; first
         | refine o_andNot rfl rfl (by decide) ?_)
         | (refine z_isb .shl ?_; first
         | refine o_shl rfl rfl (by omega) (by decide) ?_))
         | (refine z_isload ?_; first
         | refine o_loadp tabOk rfl rfl rfl 0 rfl (cx_len _) (sg_c _) (by decide) ?_
         | refine o_loadp tabOk rfl rfl rfl 1 rfl (cx_len _) (sg_c _) (by decide) ?_
         | refine o_loadp tabOk rfl rfl rfl 2 rfl (cx_len _) (sg_c _) (by decide) ?_
         | refine o_loadp tabOk rfl rfl rfl 3 rfl (cx_len _) (sg_c _) (by decide) ?_
         | (refine z_ld1 tabOk rfl rfl ?_; first
         | refine o_loadm tabOk rfl rfl rfl (by repeat' (first | exact List.mem_cons_self | apply List.mem_cons_of_mem)) (by first | exact sg_w _ | exact sg_b _ | exact sg_h _ (by omega) | exact cx_pc _ | exact cx_r _ (by omega) | exact d_k _ _ _ | exact d_n _ _ _ | rfl) (by decide) ?_
         | refine o_loads tabOk (by first | assumption | exact Rds.cons _ (by assumption) | exact Rds.cons _ (Rds.cons _ (by assumption)) | exact own_rds 0 rfl | exact own_rds 1 rfl | exact own_rds 2 rfl) rfl rfl rfl (by first | exact sg_w _ | exact sg_b _ | exact sg_h _ (by omega) | exact cx_pc _ | exact cx_r _ (by omega) | exact d_k _ _ _ | exact d_n _ _ _ | rfl) (by decide) ?_)
         | (refine z_ldw tabOk rfl rfl ?_; first
         | refine o_loadwm tabOk rfl rfl rfl (by repeat' (first | exact List.mem_cons_self | apply List.mem_cons_of_mem)) (by first | exact sg_len _ | exact cx_len _ | exact d_len _ _ _ | (simp only [sg_len, cx_len, d_len]) | rfl) (by decide) ?_))
         | (refine z_isstore ?_; first
         | (refine o_storew_at rfl 0 tabOk rfl rfl rfl rfl (cx_len _) (cx_one _) (by rw [sg_len, cx_len]; decide) (sg_set_c _ _) ?_)
         | (refine o_storew_at rfl 1 tabOk rfl rfl rfl rfl (cx_len _) (cx_one _) (by rw [sg_len, cx_len]; decide) (sg_set_c _ _) ?_)
         | (refine o_storew_at rfl 2 tabOk rfl rfl rfl rfl (cx_len _) (cx_one _) (by rw [sg_len, cx_len]; decide) (sg_set_c _ _) ?_)
         | (refine o_storew_at rfl 3 tabOk rfl rfl rfl rfl (cx_len _) (cx_one _) (by rw [sg_len, cx_len]; decide) (sg_set_c _ _) ?_)
         | refine o_storebk 0 tabOk rfl rfl rfl rfl (by first | exact sg_len _ | exact cx_len _ | exact d_len _ _ _ | (simp only [sg_len, cx_len, d_len]) | rfl) (by first | exact sg_one _ | exact cx_one _ | exact d_one _ _ _ | rfl) (by first | exact sg_len _ | exact cx_len _ | exact d_len _ _ _ | (simp only [sg_len, cx_len, d_len]) | rfl) ?_
         | refine o_storebk 1 tabOk rfl rfl rfl rfl (by first | exact sg_len _ | exact cx_len _ | exact d_len _ _ _ | (simp only [sg_len, cx_len, d_len]) | rfl) (by first | exact sg_one _ | exact cx_one _ | exact d_one _ _ _ | rfl) (by first | exact sg_len _ | exact cx_len _ | exact d_len _ _ _ | (simp only [sg_len, cx_len, d_len]) | rfl) ?_
         | refine o_storek 0 tabOk rfl rfl rfl rfl rfl rfl (by first | exact sg_w _ | exact sg_b _ | exact sg_h _ (by omega) | exact cx_pc _ | exact cx_r _ (by omega) | exact d_k _ _ _ | exact d_n _ _ _ | rfl) (by first | exact sg_set_w _ _ | exact sg_set_b _ _ | exact sg_set_h _ (by omega) _ | exact cx_set_pc _ _ | exact cx_set_r _ (by omega) _ | rfl) ?_
         | (refine o_storewk 0 tabOk rfl rfl rfl rfl (cx_len _) (cx_one _) (by rw [sg_len, cx_len]; decide) (sg_set_c _ _) ?_)
         | (refine z_stw rfl ?_; first
         | ((refine z_sti 0 rfl rfl ?_; refine o_storeb0 rfl tabOk rfl rfl rfl (by first | exact sg_len _ | exact cx_len _ | exact d_len _ _ _ | (simp only [sg_len, cx_len, d_len]) | rfl) (by first | exact sg_one _ | exact cx_one _ | exact d_one _ _ _ | rfl) (by first | exact sg_len _ | exact cx_len _ | exact d_len _ _ _ | (simp only [sg_len, cx_len, d_len]) | rfl) ?_))
         | ((refine z_sti 1 rfl rfl ?_; refine o_storeb1 rfl tabOk rfl rfl rfl (by first | exact sg_len _ | exact cx_len _ | exact d_len _ _ _ | (simp only [sg_len, cx_len, d_len]) | rfl) (by first | exact sg_one _ | exact cx_one _ | exact d_one _ _ _ | rfl) (by first | exact sg_len _ | exact cx_len _ | exact d_len _ _ _ | (simp only [sg_len, cx_len, d_len]) | rfl) ?_))
         | ((refine z_sti 2 rfl rfl ?_; refine o_storeb2 rfl tabOk rfl rfl rfl (by first | exact sg_len _ | exact cx_len _ | exact d_len _ _ _ | (simp only [sg_len, cx_len, d_len]) | rfl) (by first | exact sg_one _ | exact cx_one _ | exact d_one _ _ _ | rfl) (by first | exact sg_len _ | exact cx_len _ | exact d_len _ _ _ | (simp only [sg_len, cx_len, d_len]) | rfl) ?_))
         | ((refine z_sti 3 rfl rfl ?_; refine o_storeb3 rfl tabOk rfl rfl rfl (by first | exact sg_len _ | exact cx_len _ | exact d_len _ _ _ | (simp only [sg_len, cx_len, d_len]) | rfl) (by first | exact sg_one _ | exact cx_one _ | exact d_one _ _ _ | rfl) (by first | exact sg_len _ | exact cx_len _ | exact d_len _ _ _ | (simp only [sg_len, cx_len, d_len]) | rfl) ?_))
         | ((refine z_sti 4 rfl rfl ?_; refine o_storeb4 rfl tabOk rfl rfl rfl (by first | exact sg_len _ | exact cx_len _ | exact d_len _ _ _ | (simp only [sg_len, cx_len, d_len]) | rfl) (by first | exact sg_one _ | exact cx_one _ | exact d_one _ _ _ | rfl) (by first | exact sg_len _ | exact cx_len _ | exact d_len _ _ _ | (simp only [sg_len, cx_len, d_len]) | rfl) ?_))
         | ((refine z_sti 5 rfl rfl ?_; refine o_storeb5 rfl tabOk rfl rfl rfl (by first | exact sg_len _ | exact cx_len _ | exact d_len _ _ _ | (simp only [sg_len, cx_len, d_len]) | rfl) (by first | exact sg_one _ | exact cx_one _ | exact d_one _ _ _ | rfl) (by first | exact sg_len _ | exact cx_len _ | exact d_len _ _ _ | (simp only [sg_len, cx_len, d_len]) | rfl) ?_))
         | ((refine z_sti 6 rfl rfl ?_; refine o_storeb6 rfl tabOk rfl rfl rfl (by first | exact sg_len _ | exact cx_len _ | exact d_len _ _ _ | (simp only [sg_len, cx_len, d_len]) | rfl) (by first | exact sg_one _ | exact cx_one _ | exact d_one _ _ _ | rfl) (by first | exact sg_len _ | exact cx_len _ | exact d_len _ _ _ | (simp only [sg_len, cx_len, d_len]) | rfl) ?_)))
         | (refine z_st1 rfl rfl ?_; first
         | refine o_store rfl tabOk rfl rfl rfl rfl rfl (by first | exact sg_w _ | exact sg_b _ | exact sg_h _ (by omega) | exact cx_pc _ | exact cx_r _ (by omega) | exact d_k _ _ _ | exact d_n _ _ _ | rfl) (by first | exact sg_set_w _ _ | exact sg_set_b _ _ | exact sg_set_h _ (by omega) _ | exact cx_set_pc _ _ | exact cx_set_r _ (by omega) _ | rfl) ?_
         | ((refine z_sti 1 rfl rfl ?_; refine o_store1 rfl tabOk rfl rfl rfl rfl rfl (by first | exact sg_w _ | exact sg_b _ | exact sg_h _ (by omega) | exact cx_pc _ | exact cx_r _ (by omega) | exact d_k _ _ _ | exact d_n _ _ _ | rfl) (by first | exact sg_set_w _ _ | exact sg_set_b _ _ | exact sg_set_h _ (by omega) _ | exact cx_set_pc _ _ | exact cx_set_r _ (by omega) _ | rfl) ?_))
         | ((refine z_sti 2 rfl rfl ?_; refine o_store2 rfl tabOk rfl rfl rfl rfl rfl (by first | exact sg_w _ | exact sg_b _ | exact sg_h _ (by omega) | exact cx_pc _ | exact cx_r _ (by omega) | exact d_k _ _ _ | exact d_n _ _ _ | rfl) (by first | exact sg_set_w _ _ | exact sg_set_b _ _ | exact sg_set_h _ (by omega) _ | exact cx_set_pc _ _ | exact cx_set_r _ (by omega) _ | rfl) ?_))
         | ((refine z_sti 3 rfl rfl ?_; refine o_store3 rfl tabOk rfl rfl rfl rfl rfl (by first | exact sg_w _ | exact sg_b _ | exact sg_h _ (by omega) | exact cx_pc _ | exact cx_r _ (by omega) | exact d_k _ _ _ | exact d_n _ _ _ | rfl) (by first | exact sg_set_w _ _ | exact sg_set_b _ _ | exact sg_set_h _ (by omega) _ | exact cx_set_pc _ _ | exact cx_set_r _ (by omega) _ | rfl) ?_))
         | ((refine z_sti 4 rfl rfl ?_; refine o_store4 rfl tabOk rfl rfl rfl rfl rfl (by first | exact sg_w _ | exact sg_b _ | exact sg_h _ (by omega) | exact cx_pc _ | exact cx_r _ (by omega) | exact d_k _ _ _ | exact d_n _ _ _ | rfl) (by first | exact sg_set_w _ _ | exact sg_set_b _ _ | exact sg_set_h _ (by omega) _ | exact cx_set_pc _ _ | exact cx_set_r _ (by omega) _ | rfl) ?_))
         | ((refine z_sti 5 rfl rfl ?_; refine o_store5 rfl tabOk rfl rfl rfl rfl rfl (by first | exact sg_w _ | exact sg_b _ | exact sg_h _ (by omega) | exact cx_pc _ | exact cx_r _ (by omega) | exact d_k _ _ _ | exact d_n _ _ _ | rfl) (by first | exact sg_set_w _ _ | exact sg_set_b _ _ | exact sg_set_h _ (by omega) _ | exact cx_set_pc _ _ | exact cx_set_r _ (by omega) _ | rfl) ?_))
         | ((refine z_sti 6 rfl rfl ?_; refine o_store6 rfl tabOk rfl rfl rfl rfl rfl (by first | exact sg_w _ | exact sg_b _ | exact sg_h _ (by omega) | exact cx_pc _ | exact cx_r _ (by omega) | exact d_k _ _ _ | exact d_n _ _ _ | rfl) (by first | exact sg_set_w _ _ | exact sg_set_b _ _ | exact sg_set_h _ (by omega) _ | exact cx_set_pc _ _ | exact cx_set_r _ (by omega) _ | rfl) ?_))))
         | (refine z_iscall ?_; first
         | ((refine z_iscallf 20 ?_; refine o_calla Tryd.func20 rfl rfl rfl (tz_c _ _ (Rds.cons _ (Rds.cons _ (Rds.cons _ (Rds.cons _ hT))))) (by decide) fun _ _ => ?_))
         | ((refine z_iscallf 10 ?_; refine o_fn rfl Tryd.func10 rfl rfl rfl (waits_fn _ _) (by decide) ?_)))
         | (refine z_ispick ?_; first
         | (refine o_pick1 rfl (by first | with_reducible rfl | with_reducible assumption | ((with_reducible refine decide_eq_true ?_); first | with_reducible rfl | with_reducible assumption | omega)) rfl (by decide) ?_)
         | (refine o_pick0 rfl (by first | with_reducible rfl | with_reducible assumption | ((with_reducible refine decide_eq_false ?_); first | with_reducible assumption | omega)) rfl (by decide) ?_)
         | (refine o_pick1 rfl (by first | (simp only [Bool.not_eq_true', decide_eq_false_iff_not]; omega) | (with_reducible assumption) | (rw [decide_eq_false] <;> (first | omega | with_reducible rfl)) | (rw [decide_eq_true] <;> (first | omega | with_reducible rfl)) | (simp; done) | (simp; omega)) rfl (by decide) ?_)
         | (refine o_pick0 rfl (by first | (simp only [Bool.not_eq_false', decide_eq_true_eq]; omega) | (with_reducible assumption) | (rw [decide_eq_false] <;> (first | omega | with_reducible rfl)) | (rw [decide_eq_true] <;> (first | omega | with_reducible rfl)) | (simp; done) | (simp; omega)) rfl (by decide) ?_))
         | (refine z_isix ?_; first
         | refine o_index0 tabOk rfl rfl rfl rfl (by omega) (by omega) (by decide) ?_
         | refine o_index1 tabOk rfl rfl rfl rfl (by omega) (by omega) (by decide) ?_
         | refine o_indexsk tabOk rfl rfl rfl rfl (by omega) (by omega) (by decide) ?_
         | refine o_indexs1 tabOk (by first | assumption) rfl rfl rfl rfl (by omega) (by omega) (by decide) ?_)
         | refine o_move rfl (by decide) ?_
         | refine o_assign rfl (by decide) ?_
         | refine o_nil rfl (by decide) ?_
         | refine o_extract rfl rfl (by decide) ?_
         | refine o_not rfl (by decide) ?_
         | refine o_field0 tabOk rfl rfl rfl rfl rfl (by decide) ?_
         | refine o_field tabOk rfl rfl rfl rfl rfl (by decide) ?_
         | refine o_conv tabOk rfl rfl rfl (by decide) ?_))
      · refine Hold.go ?_
        repeat' (first
         | ((refine s_sel 4 [1, 0, 2, 3] (by decide) ?_; refine c_keep2 (id := 13) mixed (by kernel_rfl) ?_))
         | (refine s_is ?_; first
         | (refine s_isret ?_; first
         | exact f_r2 rfl (res_c tabOk rfl rfl rfl 0 rfl (sg_len _)) (res_c tabOk rfl rfl rfl 1 rfl (d_len _ _ _)) () trivial rfl (fun w h => h.sub (List.sublist_append_right [_, _, _, _] fr)))
         | (refine s_isw ?_; first
         | refine c_seq ?_
         | refine c_block ?_
         | refine c_region ?_
         | refine c_mixed mixed (by kernel_rfl) ?_
         | refine c_skip ?_
         | refine c_ret ?_
         | refine c_exit ?_
         | (refine s_iscond ?_; first
         | (refine c_true rfl (by first | with_reducible rfl | with_reducible assumption | ((with_reducible refine decide_eq_true ?_); first | with_reducible rfl | with_reducible assumption | omega)) ?_)
         | (refine c_false rfl (by first | with_reducible rfl | with_reducible assumption | ((with_reducible refine decide_eq_false ?_); first | with_reducible assumption | omega)) ?_)
         | (refine c_true rfl (by first | (simp only [Bool.not_eq_true', decide_eq_false_iff_not]; omega) | (with_reducible assumption) | (rw [decide_eq_false] <;> (first | omega | with_reducible rfl)) | (rw [decide_eq_true] <;> (first | omega | with_reducible rfl)) | (simp; done) | (simp; omega)) ?_)
         | (refine c_false rfl (by first | (simp only [Bool.not_eq_false', decide_eq_true_eq]; omega) | (with_reducible assumption) | (rw [decide_eq_false] <;> (first | omega | with_reducible rfl)) | (rw [decide_eq_true] <;> (first | omega | with_reducible rfl)) | (simp; done) | (simp; omega)) ?_)
         | refine c_cond rfl (fun hc => ?_) (fun hc => ?_)
         | refine c_condb rfl (fun hc => ?_) (fun hc => ?_)))
         | refine x_then ?_
         | refine x_then_ret ?_
         | refine x_then_exit ?_
         | refine x_block _ ?_
         | refine x_block_ret _ ?_
         | refine x_block_exit _ ?_
         | refine x_block_past (by decide) ?_
         | refine z_tailm ?_)
         | (refine z_isg1 ?_; first
         | refine z_skipu (by decide) rfl rfl ?_
         | (refine z_want1 rfl rfl (by first | with_reducible rfl | with_reducible assumption | ((with_reducible refine decide_eq_true ?_); first | with_reducible rfl | with_reducible assumption | omega)) ?_)
         | (refine z_skip1 (by decide) rfl rfl (by first | with_reducible rfl | with_reducible assumption | ((with_reducible refine decide_eq_false ?_); first | with_reducible assumption | omega)) ?_)
         | (refine z_want1 rfl rfl (by first | (simp only [Bool.not_eq_true', decide_eq_false_iff_not]; omega) | (with_reducible assumption) | (rw [decide_eq_false] <;> (first | omega | with_reducible rfl)) | (rw [decide_eq_true] <;> (first | omega | with_reducible rfl)) | (simp; done) | (simp; omega)) ?_)
         | (refine z_skip1 (by decide) rfl rfl (by first | (simp only [Bool.not_eq_false', decide_eq_true_eq]; omega) | (with_reducible assumption) | (rw [decide_eq_false] <;> (first | omega | with_reducible rfl)) | (rw [decide_eq_true] <;> (first | omega | with_reducible rfl)) | (simp; done) | (simp; omega)) ?_)
         | refine z_guard1 (by decide) rfl rfl (fun hc => ?_) (fun hc => ?_)
         | refine z_guardb (by decide) rfl rfl (fun hc => ?_) (fun hc => ?_))
         | (refine z_isnil ?_; first
         | refine z_keep1 ?_
         | refine z_keep2 ?_
         | refine z_list ?_
         | refine z_mixed ?_
         | refine z_mono0 ?_
         | refine z_mono1 (by decide) fun g => ?_
         | refine z_mono2 (by decide) (by decide) fun g g' => ?_
         | refine z_mixedx ?_
         | refine z_quiet ?_)
         | (refine z_isop ?_; first
         | refine o_boxa rfl rfl (by decide) fun g => ?_
         | refine o_alloca (e := 30) (vs := Sg.zero.cs) rfl (by kernel_rfl) (by decide) fun g => ?_
         | refine o_alloca (e := 26) (vs := Cx.zero.cs) rfl (by kernel_rfl) (by decide) fun g => ?_
         | refine o_alloca (e := 40) (vs := dCs 0 0 Cx.zero) rfl (by kernel_rfl) (by decide) fun g => ?_
         | refine o_build (t := 26) (v := .agg Cx.zero.cs.toArray) rfl (fun _ => by kernel_rfl) (by decide) ?_
         | refine o_buildf (t := 40) (zs := dCs 0 0 Cx.zero) tabOk rfl rfl (by kernel_rfl) rfl (d_fill _ _ _) (by decide) ?_
         | refine o_buildf (t := 40) (zs := dCs 0 0 Cx.zero) tabOk rfl rfl (by kernel_rfl) rfl (d_fill2 _) (by decide) ?_
         | (refine z_isbin ?_; first
         | (refine z_isb .neq ?_; first
         | refine o_ne rfl rfl (by decide) ?_
         | refine o_bne tabOk rfl rfl rfl (by decide) ?_
         | refine o_pne tabOk rfl rfl (by decide) ?_)
         | (refine z_isb .andNot ?_; first
         | refine o_andNot rfl rfl (by decide) ?_)
         | (refine z_isb .shl ?_; first
         | refine o_shl rfl rfl (by omega) (by decide) ?_))
         | (refine z_isload ?_; first
         | refine o_loadp tabOk rfl rfl rfl 0 rfl (cx_len _) (sg_c _) (by decide) ?_
         | refine o_loadp tabOk rfl rfl rfl 1 rfl (cx_len _) (sg_c _) (by decide) ?_
         | refine o_loadp tabOk rfl rfl rfl 2 rfl (cx_len _) (sg_c _) (by decide) ?_
         | refine o_loadp tabOk rfl rfl rfl 3 rfl (cx_len _) (sg_c _) (by decide) ?_
         | (refine z_ld1 tabOk rfl rfl ?_; first
         | refine o_loadm tabOk rfl rfl rfl (by repeat' (first | exact List.mem_cons_self | apply List.mem_cons_of_mem)) (by first | exact sg_w _ | exact sg_b _ | exact sg_h _ (by omega) | exact cx_pc _ | exact cx_r _ (by omega) | exact d_k _ _ _ | exact d_n _ _ _ | rfl) (by decide) ?_
         | refine o_loads tabOk (by first | assumption | exact Rds.cons _ (by assumption) | exact Rds.cons _ (Rds.cons _ (by assumption)) | exact own_rds 0 rfl | exact own_rds 1 rfl | exact own_rds 2 rfl) rfl rfl rfl (by first | exact sg_w _ | exact sg_b _ | exact sg_h _ (by omega) | exact cx_pc _ | exact cx_r _ (by omega) | exact d_k _ _ _ | exact d_n _ _ _ | rfl) (by decide) ?_)
         | (refine z_ldw tabOk rfl rfl ?_; first
         | refine o_loadwm tabOk rfl rfl rfl (by repeat' (first | exact List.mem_cons_self | apply List.mem_cons_of_mem)) (by first | exact sg_len _ | exact cx_len _ | exact d_len _ _ _ | (simp only [sg_len, cx_len, d_len]) | rfl) (by decide) ?_))
         | (refine z_isstore ?_; first
         | (refine o_storew_at rfl 0 tabOk rfl rfl rfl rfl (cx_len _) (cx_one _) (by rw [sg_len, cx_len]; decide) (sg_set_c _ _) ?_)
         | (refine o_storew_at rfl 1 tabOk rfl rfl rfl rfl (cx_len _) (cx_one _) (by rw [sg_len, cx_len]; decide) (sg_set_c _ _) ?_)
         | (refine o_storew_at rfl 2 tabOk rfl rfl rfl rfl (cx_len _) (cx_one _) (by rw [sg_len, cx_len]; decide) (sg_set_c _ _) ?_)
         | (refine o_storew_at rfl 3 tabOk rfl rfl rfl rfl (cx_len _) (cx_one _) (by rw [sg_len, cx_len]; decide) (sg_set_c _ _) ?_)
         | refine o_storebk 0 tabOk rfl rfl rfl rfl (by first | exact sg_len _ | exact cx_len _ | exact d_len _ _ _ | (simp only [sg_len, cx_len, d_len]) | rfl) (by first | exact sg_one _ | exact cx_one _ | exact d_one _ _ _ | rfl) (by first | exact sg_len _ | exact cx_len _ | exact d_len _ _ _ | (simp only [sg_len, cx_len, d_len]) | rfl) ?_
         | refine o_storebk 1 tabOk rfl rfl rfl rfl (by first | exact sg_len _ | exact cx_len _ | exact d_len _ _ _ | (simp only [sg_len, cx_len, d_len]) | rfl) (by first | exact sg_one _ | exact cx_one _ | exact d_one _ _ _ | rfl) (by first | exact sg_len _ | exact cx_len _ | exact d_len _ _ _ | (simp only [sg_len, cx_len, d_len]) | rfl) ?_
         | refine o_storek 0 tabOk rfl rfl rfl rfl rfl rfl (by first | exact sg_w _ | exact sg_b _ | exact sg_h _ (by omega) | exact cx_pc _ | exact cx_r _ (by omega) | exact d_k _ _ _ | exact d_n _ _ _ | rfl) (by first | exact sg_set_w _ _ | exact sg_set_b _ _ | exact sg_set_h _ (by omega) _ | exact cx_set_pc _ _ | exact cx_set_r _ (by omega) _ | rfl) ?_
         | (refine o_storewk 0 tabOk rfl rfl rfl rfl (cx_len _) (cx_one _) (by rw [sg_len, cx_len]; decide) (sg_set_c _ _) ?_)
         | (refine z_stw rfl ?_; first
         | ((refine z_sti 0 rfl rfl ?_; refine o_storeb0 rfl tabOk rfl rfl rfl (by first | exact sg_len _ | exact cx_len _ | exact d_len _ _ _ | (simp only [sg_len, cx_len, d_len]) | rfl) (by first | exact sg_one _ | exact cx_one _ | exact d_one _ _ _ | rfl) (by first | exact sg_len _ | exact cx_len _ | exact d_len _ _ _ | (simp only [sg_len, cx_len, d_len]) | rfl) ?_))
         | ((refine z_sti 1 rfl rfl ?_; refine o_storeb1 rfl tabOk rfl rfl rfl (by first | exact sg_len _ | exact cx_len _ | exact d_len _ _ _ | (simp only [sg_len, cx_len, d_len]) | rfl) (by first | exact sg_one _ | exact cx_one _ | exact d_one _ _ _ | rfl) (by first | exact sg_len _ | exact cx_len _ | exact d_len _ _ _ | (simp only [sg_len, cx_len, d_len]) | rfl) ?_))
         | ((refine z_sti 2 rfl rfl ?_; refine o_storeb2 rfl tabOk rfl rfl rfl (by first | exact sg_len _ | exact cx_len _ | exact d_len _ _ _ | (simp only [sg_len, cx_len, d_len]) | rfl) (by first | exact sg_one _ | exact cx_one _ | exact d_one _ _ _ | rfl) (by first | exact sg_len _ | exact cx_len _ | exact d_len _ _ _ | (simp only [sg_len, cx_len, d_len]) | rfl) ?_))
         | ((refine z_sti 3 rfl rfl ?_; refine o_storeb3 rfl tabOk rfl rfl rfl (by first | exact sg_len _ | exact cx_len _ | exact d_len _ _ _ | (simp only [sg_len, cx_len, d_len]) | rfl) (by first | exact sg_one _ | exact cx_one _ | exact d_one _ _ _ | rfl) (by first | exact sg_len _ | exact cx_len _ | exact d_len _ _ _ | (simp only [sg_len, cx_len, d_len]) | rfl) ?_))
         | ((refine z_sti 4 rfl rfl ?_; refine o_storeb4 rfl tabOk rfl rfl rfl (by first | exact sg_len _ | exact cx_len _ | exact d_len _ _ _ | (simp only [sg_len, cx_len, d_len]) | rfl) (by first | exact sg_one _ | exact cx_one _ | exact d_one _ _ _ | rfl) (by first | exact sg_len _ | exact cx_len _ | exact d_len _ _ _ | (simp only [sg_len, cx_len, d_len]) | rfl) ?_))
         | ((refine z_sti 5 rfl rfl ?_; refine o_storeb5 rfl tabOk rfl rfl rfl (by first | exact sg_len _ | exact cx_len _ | exact d_len _ _ _ | (simp only [sg_len, cx_len, d_len]) | rfl) (by first | exact sg_one _ | exact cx_one _ | exact d_one _ _ _ | rfl) (by first | exact sg_len _ | exact cx_len _ | exact d_len _ _ _ | (simp only [sg_len, cx_len, d_len]) | rfl) ?_))
         | ((refine z_sti 6 rfl rfl ?_; refine o_storeb6 rfl tabOk rfl rfl rfl (by first | exact sg_len _ | exact cx_len _ | exact d_len _ _ _ | (simp only [sg_len, cx_len, d_len]) | rfl) (by first | exact sg_one _ | exact cx_one _ | exact d_one _ _ _ | rfl) (by first | exact sg_len _ | exact cx_len _ | exact d_len _ _ _ | (simp only [sg_len, cx_len, d_len]) | rfl) ?_)))
         | (refine z_st1 rfl rfl ?_; first
         | refine o_store rfl tabOk rfl rfl rfl rfl rfl (by first | exact sg_w _ | exact sg_b _ | exact sg_h _ (by omega) | exact cx_pc _ | exact cx_r _ (by omega) | exact d_k _ _ _ | exact d_n _ _ _ | rfl) (by first | exact sg_set_w _ _ | exact sg_set_b _ _ | exact sg_set_h _ (by omega) _ | exact cx_set_pc _ _ | exact cx_set_r _ (by omega) _ | rfl) ?_
         | ((refine z_sti 1 rfl rfl ?_; refine o_store1 rfl tabOk rfl rfl rfl rfl rfl (by first | exact sg_w _ | exact sg_b _ | exact sg_h _ (by omega) | exact cx_pc _ | exact cx_r _ (by omega) | exact d_k _ _ _ | exact d_n _ _ _ | rfl) (by first | exact sg_set_w _ _ | exact sg_set_b _ _ | exact sg_set_h _ (by omega) _ | exact cx_set_pc _ _ | exact cx_set_r _ (by omega) _ | rfl) ?_))
         | ((refine z_sti 2 rfl rfl ?_; refine o_store2 rfl tabOk rfl rfl rfl rfl rfl (by first | exact sg_w _ | exact sg_b _ | exact sg_h _ (by omega) | exact cx_pc _ | exact cx_r _ (by omega) | exact d_k _ _ _ | exact d_n _ _ _ | rfl) (by first | exact sg_set_w _ _ | exact sg_set_b _ _ | exact sg_set_h _ (by omega) _ | exact cx_set_pc _ _ | exact cx_set_r _ (by omega) _ | rfl) ?_))
         | ((refine z_sti 3 rfl rfl ?_; refine o_store3 rfl tabOk rfl rfl rfl rfl rfl (by first | exact sg_w _ | exact sg_b _ | exact sg_h _ (by omega) | exact cx_pc _ | exact cx_r _ (by omega) | exact d_k _ _ _ | exact d_n _ _ _ | rfl) (by first | exact sg_set_w _ _ | exact sg_set_b _ _ | exact sg_set_h _ (by omega) _ | exact cx_set_pc _ _ | exact cx_set_r _ (by omega) _ | rfl) ?_))
         | ((refine z_sti 4 rfl rfl ?_; refine o_store4 rfl tabOk rfl rfl rfl rfl rfl (by first | exact sg_w _ | exact sg_b _ | exact sg_h _ (by omega) | exact cx_pc _ | exact cx_r _ (by omega) | exact d_k _ _ _ | exact d_n _ _ _ | rfl) (by first | exact sg_set_w _ _ | exact sg_set_b _ _ | exact sg_set_h _ (by omega) _ | exact cx_set_pc _ _ | exact cx_set_r _ (by omega) _ | rfl) ?_))
         | ((refine z_sti 5 rfl rfl ?_; refine o_store5 rfl tabOk rfl rfl rfl rfl rfl (by first | exact sg_w _ | exact sg_b _ | exact sg_h _ (by omega) | exact cx_pc _ | exact cx_r _ (by omega) | exact d_k _ _ _ | exact d_n _ _ _ | rfl) (by first | exact sg_set_w _ _ | exact sg_set_b _ _ | exact sg_set_h _ (by omega) _ | exact cx_set_pc _ _ | exact cx_set_r _ (by omega) _ | rfl) ?_))
         | ((refine z_sti 6 rfl rfl ?_; refine o_store6 rfl tabOk rfl rfl rfl rfl rfl (by first | exact sg_w _ | exact sg_b _ | exact sg_h _ (by omega) | exact cx_pc _ | exact cx_r _ (by omega) | exact d_k _ _ _ | exact d_n _ _ _ | rfl) (by first | exact sg_set_w _ _ | exact sg_set_b _ _ | exact sg_set_h _ (by omega) _ | exact cx_set_pc _ _ | exact cx_set_r _ (by omega) _ | rfl) ?_))))
         | (refine z_iscall ?_; first
         | ((refine z_iscallf 10 ?_; refine o_fn rfl Tryd.func10 rfl rfl rfl (waits_fn _ _) (by decide) ?_)))
         | (refine z_ispick ?_; first
         | (refine o_pick1 rfl (by first | with_reducible rfl | with_reducible assumption | ((with_reducible refine decide_eq_true ?_); first | with_reducible rfl | with_reducible assumption | omega)) rfl (by decide) ?_)
         | (refine o_pick0 rfl (by first | with_reducible rfl | with_reducible assumption | ((with_reducible refine decide_eq_false ?_); first | with_reducible assumption | omega)) rfl (by decide) ?_)
         | (refine o_pick1 rfl (by first | (simp only [Bool.not_eq_true', decide_eq_false_iff_not]; omega) | (with_reducible assumption) | (rw [decide_eq_false] <;> (first | omega | with_reducible rfl)) | (rw [decide_eq_true] <;> (first | omega | with_reducible rfl)) | (simp; done) | (simp; omega)) rfl (by decide) ?_)
         | (refine o_pick0 rfl (by first | (simp only [Bool.not_eq_false', decide_eq_true_eq]; omega) | (with_reducible assumption) | (rw [decide_eq_false] <;> (first | omega | with_reducible rfl)) | (rw [decide_eq_true] <;> (first | omega | with_reducible rfl)) | (simp; done) | (simp; omega)) rfl (by decide) ?_))
         | (refine z_isix ?_; first
         | refine o_index0 tabOk rfl rfl rfl rfl (by omega) (by omega) (by decide) ?_
         | refine o_index1 tabOk rfl rfl rfl rfl (by omega) (by omega) (by decide) ?_
         | refine o_indexsk tabOk rfl rfl rfl rfl (by omega) (by omega) (by decide) ?_
         | refine o_indexs1 tabOk (by first | assumption) rfl rfl rfl rfl (by omega) (by omega) (by decide) ?_)
         | refine o_move rfl (by decide) ?_
         | refine o_assign rfl (by decide) ?_
         | refine o_nil rfl (by decide) ?_
         | refine o_extract rfl rfl (by decide) ?_
         | refine o_not rfl (by decide) ?_
         | refine o_field0 tabOk rfl rfl rfl rfl rfl (by decide) ?_
         | refine o_field tabOk rfl rfl rfl rfl rfl (by decide) ?_
         | refine o_conv tabOk rfl rfl rfl (by decide) ?_))
    · have hn : s.next c = (s.low, 1, tz s.w, c) := by simp [Sg.next, e0, hb, hw0, hh, h9]
      rw [hn]
      have e4 : decide (tz s.w ≠ 8) = true := by simp [h9]
      clear hn hb hh hl
      repeat' (first
       | ((refine s_sel 4 [1, 0, 2, 3] (by decide) ?_; refine c_keep2 (id := 12) mixed (by kernel_rfl) ?_))
       | (refine s_is ?_; first
       | (refine s_isret ?_; first
       | exact f_r2 rfl (res_c tabOk rfl rfl rfl 0 rfl (sg_len _)) (res_c tabOk rfl rfl rfl 1 rfl (d_len _ _ _)) () trivial rfl (fun w h => h.sub (List.sublist_append_right [_, _, _, _] fr)))
       | (refine s_isw ?_; first
       | (refine s_isloop ?_; first
       | ((rename_i g2 g3 g4; refine c_loop (X := Unit) (fun _ => True) (fun _ => [(2, .pointer (some ⟨g2, 0, none⟩)), (3, .pointer (some ⟨g3, 0, none⟩)), (4, .pointer (some ⟨g4, 0, none⟩)), (5, .pointer (some ⟨g, 0, none⟩))]) (fun _ => cells g 40 (dCs 0 0 Cx.zero) :: cells g4 30 Sg.zero.cs :: cells g3 26 c.cs :: cells g2 30 s.cs :: fr) (fun _ => 0) () trivial ⟨rfl, rfl, rfl, rfl, trivial⟩ (fun w h => h) (fun x hx => ?_))))
       | refine c_seq ?_
       | refine c_block ?_
       | refine c_region ?_
       | refine c_mixed mixed (by kernel_rfl) ?_
       | refine c_skip ?_
       | refine c_ret ?_
       | refine c_exit ?_
       | (refine s_iscond ?_; first
       | (refine c_true rfl (by first | with_reducible rfl | with_reducible assumption | ((with_reducible refine decide_eq_true ?_); first | with_reducible rfl | with_reducible assumption | omega)) ?_)
       | (refine c_false rfl (by first | with_reducible rfl | with_reducible assumption | ((with_reducible refine decide_eq_false ?_); first | with_reducible assumption | omega)) ?_)
       | (refine c_true rfl (by first | (simp only [Bool.not_eq_true', decide_eq_false_iff_not]; omega) | (with_reducible assumption) | (rw [decide_eq_false] <;> (first | omega | with_reducible rfl)) | (rw [decide_eq_true] <;> (first | omega | with_reducible rfl)) | (simp; done) | (simp; omega)) ?_)
       | (refine c_false rfl (by first | (simp only [Bool.not_eq_false', decide_eq_true_eq]; omega) | (with_reducible assumption) | (rw [decide_eq_false] <;> (first | omega | with_reducible rfl)) | (rw [decide_eq_true] <;> (first | omega | with_reducible rfl)) | (simp; done) | (simp; omega)) ?_)
       | refine c_cond rfl (fun hc => ?_) (fun hc => ?_)
       | refine c_condb rfl (fun hc => ?_) (fun hc => ?_)))
       | refine x_then ?_
       | refine x_then_ret ?_
       | refine x_then_exit ?_
       | refine x_block _ ?_
       | refine x_block_ret _ ?_
       | refine x_block_exit _ ?_
       | refine x_block_past (by decide) ?_
       | refine z_tailm ?_)
       | (refine z_isg1 ?_; first
       | refine z_skipu (by decide) rfl rfl ?_
       | (refine z_want1 rfl rfl (by first | with_reducible rfl | with_reducible assumption | ((with_reducible refine decide_eq_true ?_); first | with_reducible rfl | with_reducible assumption | omega)) ?_)
       | (refine z_skip1 (by decide) rfl rfl (by first | with_reducible rfl | with_reducible assumption | ((with_reducible refine decide_eq_false ?_); first | with_reducible assumption | omega)) ?_)
       | (refine z_want1 rfl rfl (by first | (simp only [Bool.not_eq_true', decide_eq_false_iff_not]; omega) | (with_reducible assumption) | (rw [decide_eq_false] <;> (first | omega | with_reducible rfl)) | (rw [decide_eq_true] <;> (first | omega | with_reducible rfl)) | (simp; done) | (simp; omega)) ?_)
       | (refine z_skip1 (by decide) rfl rfl (by first | (simp only [Bool.not_eq_false', decide_eq_true_eq]; omega) | (with_reducible assumption) | (rw [decide_eq_false] <;> (first | omega | with_reducible rfl)) | (rw [decide_eq_true] <;> (first | omega | with_reducible rfl)) | (simp; done) | (simp; omega)) ?_)
       | refine z_guard1 (by decide) rfl rfl (fun hc => ?_) (fun hc => ?_)
       | refine z_guardb (by decide) rfl rfl (fun hc => ?_) (fun hc => ?_))
       | (refine z_isnil ?_; first
       | refine z_keep1 ?_
       | refine z_keep2 ?_
       | refine z_list ?_
       | refine z_mixed ?_
       | refine z_mono0 ?_
       | refine z_mono1 (by decide) fun g => ?_
       | refine z_mono2 (by decide) (by decide) fun g g' => ?_
       | refine z_mixedx ?_
       | refine z_quiet ?_)
       | (refine z_isop ?_; first
       | refine o_boxa rfl rfl (by decide) fun g => ?_
       | refine o_alloca (e := 30) (vs := Sg.zero.cs) rfl (by kernel_rfl) (by decide) fun g => ?_
       | refine o_alloca (e := 26) (vs := Cx.zero.cs) rfl (by kernel_rfl) (by decide) fun g => ?_
       | refine o_alloca (e := 40) (vs := dCs 0 0 Cx.zero) rfl (by kernel_rfl) (by decide) fun g => ?_
       | refine o_build (t := 26) (v := .agg Cx.zero.cs.toArray) rfl (fun _ => by kernel_rfl) (by decide) ?_
       | refine o_buildf (t := 40) (zs := dCs 0 0 Cx.zero) tabOk rfl rfl (by kernel_rfl) rfl (d_fill _ _ _) (by decide) ?_
       | refine o_buildf (t := 40) (zs := dCs 0 0 Cx.zero) tabOk rfl rfl (by kernel_rfl) rfl (d_fill2 _) (by decide) ?_
       | (refine z_isbin ?_; first
       | (refine z_isb .neq ?_; first
       | refine o_ne rfl rfl (by decide) ?_
       | refine o_bne tabOk rfl rfl rfl (by decide) ?_
       | refine o_pne tabOk rfl rfl (by decide) ?_)
       | (refine z_isb .andNot ?_; first
       | refine o_andNot rfl rfl (by decide) ?_)
       | (refine z_isb .shl ?_; first
       | refine o_shl rfl rfl (by omega) (by decide) ?_))
       | (refine z_isload ?_; first
       | refine o_loadp tabOk rfl rfl rfl 0 rfl (cx_len _) (sg_c _) (by decide) ?_
       | refine o_loadp tabOk rfl rfl rfl 1 rfl (cx_len _) (sg_c _) (by decide) ?_
       | refine o_loadp tabOk rfl rfl rfl 2 rfl (cx_len _) (sg_c _) (by decide) ?_
       | refine o_loadp tabOk rfl rfl rfl 3 rfl (cx_len _) (sg_c _) (by decide) ?_
       | (refine z_ld1 tabOk rfl rfl ?_; first
       | refine o_loadm tabOk rfl rfl rfl (by repeat' (first | exact List.mem_cons_self | apply List.mem_cons_of_mem)) (by first | exact sg_w _ | exact sg_b _ | exact sg_h _ (by omega) | exact cx_pc _ | exact cx_r _ (by omega) | exact d_k _ _ _ | exact d_n _ _ _ | rfl) (by decide) ?_
       | refine o_loads tabOk (by first | assumption | exact Rds.cons _ (by assumption) | exact Rds.cons _ (Rds.cons _ (by assumption)) | exact own_rds 0 rfl | exact own_rds 1 rfl | exact own_rds 2 rfl) rfl rfl rfl (by first | exact sg_w _ | exact sg_b _ | exact sg_h _ (by omega) | exact cx_pc _ | exact cx_r _ (by omega) | exact d_k _ _ _ | exact d_n _ _ _ | rfl) (by decide) ?_)
       | (refine z_ldw tabOk rfl rfl ?_; first
       | refine o_loadwm tabOk rfl rfl rfl (by repeat' (first | exact List.mem_cons_self | apply List.mem_cons_of_mem)) (by first | exact sg_len _ | exact cx_len _ | exact d_len _ _ _ | (simp only [sg_len, cx_len, d_len]) | rfl) (by decide) ?_))
       | (refine z_isstore ?_; first
       | (refine o_storew_at rfl 0 tabOk rfl rfl rfl rfl (cx_len _) (cx_one _) (by rw [sg_len, cx_len]; decide) (sg_set_c _ _) ?_)
       | (refine o_storew_at rfl 1 tabOk rfl rfl rfl rfl (cx_len _) (cx_one _) (by rw [sg_len, cx_len]; decide) (sg_set_c _ _) ?_)
       | (refine o_storew_at rfl 2 tabOk rfl rfl rfl rfl (cx_len _) (cx_one _) (by rw [sg_len, cx_len]; decide) (sg_set_c _ _) ?_)
       | (refine o_storew_at rfl 3 tabOk rfl rfl rfl rfl (cx_len _) (cx_one _) (by rw [sg_len, cx_len]; decide) (sg_set_c _ _) ?_)
       | refine o_storebk 0 tabOk rfl rfl rfl rfl (by first | exact sg_len _ | exact cx_len _ | exact d_len _ _ _ | (simp only [sg_len, cx_len, d_len]) | rfl) (by first | exact sg_one _ | exact cx_one _ | exact d_one _ _ _ | rfl) (by first | exact sg_len _ | exact cx_len _ | exact d_len _ _ _ | (simp only [sg_len, cx_len, d_len]) | rfl) ?_
       | refine o_storebk 1 tabOk rfl rfl rfl rfl (by first | exact sg_len _ | exact cx_len _ | exact d_len _ _ _ | (simp only [sg_len, cx_len, d_len]) | rfl) (by first | exact sg_one _ | exact cx_one _ | exact d_one _ _ _ | rfl) (by first | exact sg_len _ | exact cx_len _ | exact d_len _ _ _ | (simp only [sg_len, cx_len, d_len]) | rfl) ?_
       | refine o_storek 0 tabOk rfl rfl rfl rfl rfl rfl (by first | exact sg_w _ | exact sg_b _ | exact sg_h _ (by omega) | exact cx_pc _ | exact cx_r _ (by omega) | exact d_k _ _ _ | exact d_n _ _ _ | rfl) (by first | exact sg_set_w _ _ | exact sg_set_b _ _ | exact sg_set_h _ (by omega) _ | exact cx_set_pc _ _ | exact cx_set_r _ (by omega) _ | rfl) ?_
       | (refine o_storewk 0 tabOk rfl rfl rfl rfl (cx_len _) (cx_one _) (by rw [sg_len, cx_len]; decide) (sg_set_c _ _) ?_)
       | (refine z_stw rfl ?_; first
       | ((refine z_sti 0 rfl rfl ?_; refine o_storeb0 rfl tabOk rfl rfl rfl (by first | exact sg_len _ | exact cx_len _ | exact d_len _ _ _ | (simp only [sg_len, cx_len, d_len]) | rfl) (by first | exact sg_one _ | exact cx_one _ | exact d_one _ _ _ | rfl) (by first | exact sg_len _ | exact cx_len _ | exact d_len _ _ _ | (simp only [sg_len, cx_len, d_len]) | rfl) ?_))
       | ((refine z_sti 1 rfl rfl ?_; refine o_storeb1 rfl tabOk rfl rfl rfl (by first | exact sg_len _ | exact cx_len _ | exact d_len _ _ _ | (simp only [sg_len, cx_len, d_len]) | rfl) (by first | exact sg_one _ | exact cx_one _ | exact d_one _ _ _ | rfl) (by first | exact sg_len _ | exact cx_len _ | exact d_len _ _ _ | (simp only [sg_len, cx_len, d_len]) | rfl) ?_))
       | ((refine z_sti 2 rfl rfl ?_; refine o_storeb2 rfl tabOk rfl rfl rfl (by first | exact sg_len _ | exact cx_len _ | exact d_len _ _ _ | (simp only [sg_len, cx_len, d_len]) | rfl) (by first | exact sg_one _ | exact cx_one _ | exact d_one _ _ _ | rfl) (by first | exact sg_len _ | exact cx_len _ | exact d_len _ _ _ | (simp only [sg_len, cx_len, d_len]) | rfl) ?_))
       | ((refine z_sti 3 rfl rfl ?_; refine o_storeb3 rfl tabOk rfl rfl rfl (by first | exact sg_len _ | exact cx_len _ | exact d_len _ _ _ | (simp only [sg_len, cx_len, d_len]) | rfl) (by first | exact sg_one _ | exact cx_one _ | exact d_one _ _ _ | rfl) (by first | exact sg_len _ | exact cx_len _ | exact d_len _ _ _ | (simp only [sg_len, cx_len, d_len]) | rfl) ?_))
       | ((refine z_sti 4 rfl rfl ?_; refine o_storeb4 rfl tabOk rfl rfl rfl (by first | exact sg_len _ | exact cx_len _ | exact d_len _ _ _ | (simp only [sg_len, cx_len, d_len]) | rfl) (by first | exact sg_one _ | exact cx_one _ | exact d_one _ _ _ | rfl) (by first | exact sg_len _ | exact cx_len _ | exact d_len _ _ _ | (simp only [sg_len, cx_len, d_len]) | rfl) ?_))
       | ((refine z_sti 5 rfl rfl ?_; refine o_storeb5 rfl tabOk rfl rfl rfl (by first | exact sg_len _ | exact cx_len _ | exact d_len _ _ _ | (simp only [sg_len, cx_len, d_len]) | rfl) (by first | exact sg_one _ | exact cx_one _ | exact d_one _ _ _ | rfl) (by first | exact sg_len _ | exact cx_len _ | exact d_len _ _ _ | (simp only [sg_len, cx_len, d_len]) | rfl) ?_))
       | ((refine z_sti 6 rfl rfl ?_; refine o_storeb6 rfl tabOk rfl rfl rfl (by first | exact sg_len _ | exact cx_len _ | exact d_len _ _ _ | (simp only [sg_len, cx_len, d_len]) | rfl) (by first | exact sg_one _ | exact cx_one _ | exact d_one _ _ _ | rfl) (by first | exact sg_len _ | exact cx_len _ | exact d_len _ _ _ | (simp only [sg_len, cx_len, d_len]) | rfl) ?_)))
       | (refine z_st1 rfl rfl ?_; first
       | refine o_store rfl tabOk rfl rfl rfl rfl rfl (by first | exact sg_w _ | exact sg_b _ | exact sg_h _ (by omega) | exact cx_pc _ | exact cx_r _ (by omega) | exact d_k _ _ _ | exact d_n _ _ _ | rfl) (by first | exact sg_set_w _ _ | exact sg_set_b _ _ | exact sg_set_h _ (by omega) _ | exact cx_set_pc _ _ | exact cx_set_r _ (by omega) _ | rfl) ?_
       | ((refine z_sti 1 rfl rfl ?_; refine o_store1 rfl tabOk rfl rfl rfl rfl rfl (by first | exact sg_w _ | exact sg_b _ | exact sg_h _ (by omega) | exact cx_pc _ | exact cx_r _ (by omega) | exact d_k _ _ _ | exact d_n _ _ _ | rfl) (by first | exact sg_set_w _ _ | exact sg_set_b _ _ | exact sg_set_h _ (by omega) _ | exact cx_set_pc _ _ | exact cx_set_r _ (by omega) _ | rfl) ?_))
       | ((refine z_sti 2 rfl rfl ?_; refine o_store2 rfl tabOk rfl rfl rfl rfl rfl (by first | exact sg_w _ | exact sg_b _ | exact sg_h _ (by omega) | exact cx_pc _ | exact cx_r _ (by omega) | exact d_k _ _ _ | exact d_n _ _ _ | rfl) (by first | exact sg_set_w _ _ | exact sg_set_b _ _ | exact sg_set_h _ (by omega) _ | exact cx_set_pc _ _ | exact cx_set_r _ (by omega) _ | rfl) ?_))
       | ((refine z_sti 3 rfl rfl ?_; refine o_store3 rfl tabOk rfl rfl rfl rfl rfl (by first | exact sg_w _ | exact sg_b _ | exact sg_h _ (by omega) | exact cx_pc _ | exact cx_r _ (by omega) | exact d_k _ _ _ | exact d_n _ _ _ | rfl) (by first | exact sg_set_w _ _ | exact sg_set_b _ _ | exact sg_set_h _ (by omega) _ | exact cx_set_pc _ _ | exact cx_set_r _ (by omega) _ | rfl) ?_))
       | ((refine z_sti 4 rfl rfl ?_; refine o_store4 rfl tabOk rfl rfl rfl rfl rfl (by first | exact sg_w _ | exact sg_b _ | exact sg_h _ (by omega) | exact cx_pc _ | exact cx_r _ (by omega) | exact d_k _ _ _ | exact d_n _ _ _ | rfl) (by first | exact sg_set_w _ _ | exact sg_set_b _ _ | exact sg_set_h _ (by omega) _ | exact cx_set_pc _ _ | exact cx_set_r _ (by omega) _ | rfl) ?_))
       | ((refine z_sti 5 rfl rfl ?_; refine o_store5 rfl tabOk rfl rfl rfl rfl rfl (by first | exact sg_w _ | exact sg_b _ | exact sg_h _ (by omega) | exact cx_pc _ | exact cx_r _ (by omega) | exact d_k _ _ _ | exact d_n _ _ _ | rfl) (by first | exact sg_set_w _ _ | exact sg_set_b _ _ | exact sg_set_h _ (by omega) _ | exact cx_set_pc _ _ | exact cx_set_r _ (by omega) _ | rfl) ?_))
       | ((refine z_sti 6 rfl rfl ?_; refine o_store6 rfl tabOk rfl rfl rfl rfl rfl (by first | exact sg_w _ | exact sg_b _ | exact sg_h _ (by omega) | exact cx_pc _ | exact cx_r _ (by omega) | exact d_k _ _ _ | exact d_n _ _ _ | rfl) (by first | exact sg_set_w _ _ | exact sg_set_b _ _ | exact sg_set_h _ (by omega) _ | exact cx_set_pc _ _ | exact cx_set_r _ (by omega) _ | rfl) ?_))))
       | (refine z_iscall ?_; first
       | ((refine z_iscallf 20 ?_; refine o_calla Tryd.func20 rfl rfl rfl (tz_c _ _ (Rds.cons _ (Rds.cons _ (Rds.cons _ (Rds.cons _ hT))))) (by decide) fun _ _ => ?_))
       | ((refine z_iscallf 10 ?_; refine o_fn rfl Tryd.func10 rfl rfl rfl (waits_fn _ _) (by decide) ?_)))
       | (refine z_ispick ?_; first
       | (refine o_pick1 rfl (by first | with_reducible rfl | with_reducible assumption | ((with_reducible refine decide_eq_true ?_); first | with_reducible rfl | with_reducible assumption | omega)) rfl (by decide) ?_)
       | (refine o_pick0 rfl (by first | with_reducible rfl | with_reducible assumption | ((with_reducible refine decide_eq_false ?_); first | with_reducible assumption | omega)) rfl (by decide) ?_)
       | (refine o_pick1 rfl (by first | (simp only [Bool.not_eq_true', decide_eq_false_iff_not]; omega) | (with_reducible assumption) | (rw [decide_eq_false] <;> (first | omega | with_reducible rfl)) | (rw [decide_eq_true] <;> (first | omega | with_reducible rfl)) | (simp; done) | (simp; omega)) rfl (by decide) ?_)
       | (refine o_pick0 rfl (by first | (simp only [Bool.not_eq_false', decide_eq_true_eq]; omega) | (with_reducible assumption) | (rw [decide_eq_false] <;> (first | omega | with_reducible rfl)) | (rw [decide_eq_true] <;> (first | omega | with_reducible rfl)) | (simp; done) | (simp; omega)) rfl (by decide) ?_))
       | (refine z_isix ?_; first
       | refine o_index0 tabOk rfl rfl rfl rfl (by omega) (by omega) (by decide) ?_
       | refine o_index1 tabOk rfl rfl rfl rfl (by omega) (by omega) (by decide) ?_
       | refine o_indexsk tabOk rfl rfl rfl rfl (by omega) (by omega) (by decide) ?_
       | refine o_indexs1 tabOk (by first | assumption) rfl rfl rfl rfl (by omega) (by omega) (by decide) ?_)
       | refine o_move rfl (by decide) ?_
       | refine o_assign rfl (by decide) ?_
       | refine o_nil rfl (by decide) ?_
       | refine o_extract rfl rfl (by decide) ?_
       | refine o_not rfl (by decide) ?_
       | refine o_field0 tabOk rfl rfl rfl rfl rfl (by decide) ?_
       | refine o_field tabOk rfl rfl rfl rfl rfl (by decide) ?_
       | refine o_conv tabOk rfl rfl rfl (by decide) ?_))
  · have e3 : decide (s.h (tz s.w).toNat ≠ 0) = true := by simp [hh]
    have hn : s.next c = ({ s.low with b := true, c := c }, 2, tz s.w, { c with pc := s.h (tz s.w).toNat, r := upd c.r 1 (IntKind.u32.wrap (tz s.w)) }) := by simp [Sg.next, e0, hb, hw0, hh]
    rw [hn]
    clear hn hb hh hl
    repeat' (first
     | ((refine s_sel 4 [3, 0, 1, 2] (by decide) ?_; refine c_keep1 (id := 8) mixed (by kernel_rfl) ?_))
     | ((refine s_sel 4 [2, 1, 0, 3] (by decide) ?_; refine c_keep2 (id := 10) mixed (by kernel_rfl) ?_))
     | (refine s_is ?_; first
     | (refine s_isret ?_; first
     | exact f_r2 rfl (res_c tabOk rfl rfl rfl 0 rfl (sg_len _)) (res_c tabOk rfl rfl rfl 1 rfl (d_len _ _ _)) () trivial rfl (fun w h => h.sub (List.sublist_append_right [_, _, _, _] fr)))
     | (refine s_isw ?_; first
     | (refine s_isloop ?_; first
     | ((rename_i g2 g3 g4; refine c_loop (X := Unit) (fun _ => True) (fun _ => [(2, .pointer (some ⟨g2, 0, none⟩)), (3, .pointer (some ⟨g3, 0, none⟩)), (4, .pointer (some ⟨g4, 0, none⟩)), (5, .pointer (some ⟨g, 0, none⟩))]) (fun _ => cells g 40 (dCs 0 0 Cx.zero) :: cells g4 30 Sg.zero.cs :: cells g3 26 c.cs :: cells g2 30 s.cs :: fr) (fun _ => 0) () trivial ⟨rfl, rfl, rfl, rfl, trivial⟩ (fun w h => h) (fun x hx => ?_))))
     | refine c_seq ?_
     | refine c_block ?_
     | refine c_region ?_
     | refine c_mixed mixed (by kernel_rfl) ?_
     | refine c_skip ?_
     | refine c_ret ?_
     | refine c_exit ?_
     | (refine s_iscond ?_; first
     | (refine c_true rfl (by first | with_reducible rfl | with_reducible assumption | ((with_reducible refine decide_eq_true ?_); first | with_reducible rfl | with_reducible assumption | omega)) ?_)
     | (refine c_false rfl (by first | with_reducible rfl | with_reducible assumption | ((with_reducible refine decide_eq_false ?_); first | with_reducible assumption | omega)) ?_)
     | (refine c_true rfl (by first | (simp only [Bool.not_eq_true', decide_eq_false_iff_not]; omega) | (with_reducible assumption) | (rw [decide_eq_false] <;> (first | omega | with_reducible rfl)) | (rw [decide_eq_true] <;> (first | omega | with_reducible rfl)) | (simp; done) | (simp; omega)) ?_)
     | (refine c_false rfl (by first | (simp only [Bool.not_eq_false', decide_eq_true_eq]; omega) | (with_reducible assumption) | (rw [decide_eq_false] <;> (first | omega | with_reducible rfl)) | (rw [decide_eq_true] <;> (first | omega | with_reducible rfl)) | (simp; done) | (simp; omega)) ?_)
     | refine c_cond rfl (fun hc => ?_) (fun hc => ?_)
     | refine c_condb rfl (fun hc => ?_) (fun hc => ?_)))
     | refine x_then ?_
     | refine x_then_ret ?_
     | refine x_then_exit ?_
     | refine x_block _ ?_
     | refine x_block_ret _ ?_
     | refine x_block_exit _ ?_
     | refine x_block_past (by decide) ?_
     | refine z_tailm ?_)
     | (refine z_isg1 ?_; first
     | refine z_skipu (by decide) rfl rfl ?_
     | (refine z_want1 rfl rfl (by first | with_reducible rfl | with_reducible assumption | ((with_reducible refine decide_eq_true ?_); first | with_reducible rfl | with_reducible assumption | omega)) ?_)
     | (refine z_skip1 (by decide) rfl rfl (by first | with_reducible rfl | with_reducible assumption | ((with_reducible refine decide_eq_false ?_); first | with_reducible assumption | omega)) ?_)
     | (refine z_want1 rfl rfl (by first | (simp only [Bool.not_eq_true', decide_eq_false_iff_not]; omega) | (with_reducible assumption) | (rw [decide_eq_false] <;> (first | omega | with_reducible rfl)) | (rw [decide_eq_true] <;> (first | omega | with_reducible rfl)) | (simp; done) | (simp; omega)) ?_)
     | (refine z_skip1 (by decide) rfl rfl (by first | (simp only [Bool.not_eq_false', decide_eq_true_eq]; omega) | (with_reducible assumption) | (rw [decide_eq_false] <;> (first | omega | with_reducible rfl)) | (rw [decide_eq_true] <;> (first | omega | with_reducible rfl)) | (simp; done) | (simp; omega)) ?_)
     | refine z_guard1 (by decide) rfl rfl (fun hc => ?_) (fun hc => ?_)
     | refine z_guardb (by decide) rfl rfl (fun hc => ?_) (fun hc => ?_))
     | (refine z_isnil ?_; first
     | refine z_keep1 ?_
     | refine z_keep2 ?_
     | refine z_list ?_
     | refine z_mixed ?_
     | refine z_mono0 ?_
     | refine z_mono1 (by decide) fun g => ?_
     | refine z_mono2 (by decide) (by decide) fun g g' => ?_
     | refine z_mixedx ?_
     | refine z_quiet ?_)
     | (refine z_isop ?_; first
     | refine o_boxa rfl rfl (by decide) fun g => ?_
     | refine o_alloca (e := 30) (vs := Sg.zero.cs) rfl (by kernel_rfl) (by decide) fun g => ?_
     | refine o_alloca (e := 26) (vs := Cx.zero.cs) rfl (by kernel_rfl) (by decide) fun g => ?_
     | refine o_alloca (e := 40) (vs := dCs 0 0 Cx.zero) rfl (by kernel_rfl) (by decide) fun g => ?_
     | refine o_build (t := 26) (v := .agg Cx.zero.cs.toArray) rfl (fun _ => by kernel_rfl) (by decide) ?_
     | refine o_buildf (t := 40) (zs := dCs 0 0 Cx.zero) tabOk rfl rfl (by kernel_rfl) rfl (d_fill _ _ _) (by decide) ?_
     | refine o_buildf (t := 40) (zs := dCs 0 0 Cx.zero) tabOk rfl rfl (by kernel_rfl) rfl (d_fill2 _) (by decide) ?_
     | (refine z_isbin ?_; first
     | (refine z_isb .neq ?_; first
     | refine o_ne rfl rfl (by decide) ?_
     | refine o_bne tabOk rfl rfl rfl (by decide) ?_
     | refine o_pne tabOk rfl rfl (by decide) ?_)
     | (refine z_isb .andNot ?_; first
     | refine o_andNot rfl rfl (by decide) ?_)
     | (refine z_isb .shl ?_; first
     | refine o_shl rfl rfl (by omega) (by decide) ?_))
     | (refine z_isload ?_; first
     | refine o_loadp tabOk rfl rfl rfl 0 rfl (cx_len _) (sg_c _) (by decide) ?_
     | refine o_loadp tabOk rfl rfl rfl 1 rfl (cx_len _) (sg_c _) (by decide) ?_
     | refine o_loadp tabOk rfl rfl rfl 2 rfl (cx_len _) (sg_c _) (by decide) ?_
     | refine o_loadp tabOk rfl rfl rfl 3 rfl (cx_len _) (sg_c _) (by decide) ?_
     | (refine z_ld1 tabOk rfl rfl ?_; first
     | refine o_loadm tabOk rfl rfl rfl (by repeat' (first | exact List.mem_cons_self | apply List.mem_cons_of_mem)) (by first | exact sg_w _ | exact sg_b _ | exact sg_h _ (by omega) | exact cx_pc _ | exact cx_r _ (by omega) | exact d_k _ _ _ | exact d_n _ _ _ | rfl) (by decide) ?_
     | refine o_loads tabOk (by first | assumption | exact Rds.cons _ (by assumption) | exact Rds.cons _ (Rds.cons _ (by assumption)) | exact own_rds 0 rfl | exact own_rds 1 rfl | exact own_rds 2 rfl) rfl rfl rfl (by first | exact sg_w _ | exact sg_b _ | exact sg_h _ (by omega) | exact cx_pc _ | exact cx_r _ (by omega) | exact d_k _ _ _ | exact d_n _ _ _ | rfl) (by decide) ?_)
     | (refine z_ldw tabOk rfl rfl ?_; first
     | refine o_loadwm tabOk rfl rfl rfl (by repeat' (first | exact List.mem_cons_self | apply List.mem_cons_of_mem)) (by first | exact sg_len _ | exact cx_len _ | exact d_len _ _ _ | (simp only [sg_len, cx_len, d_len]) | rfl) (by decide) ?_))
     | (refine z_isstore ?_; first
     | (refine o_storew_at rfl 0 tabOk rfl rfl rfl rfl (cx_len _) (cx_one _) (by rw [sg_len, cx_len]; decide) (sg_set_c _ _) ?_)
     | (refine o_storew_at rfl 1 tabOk rfl rfl rfl rfl (cx_len _) (cx_one _) (by rw [sg_len, cx_len]; decide) (sg_set_c _ _) ?_)
     | (refine o_storew_at rfl 2 tabOk rfl rfl rfl rfl (cx_len _) (cx_one _) (by rw [sg_len, cx_len]; decide) (sg_set_c _ _) ?_)
     | (refine o_storew_at rfl 3 tabOk rfl rfl rfl rfl (cx_len _) (cx_one _) (by rw [sg_len, cx_len]; decide) (sg_set_c _ _) ?_)
     | refine o_storebk 0 tabOk rfl rfl rfl rfl (by first | exact sg_len _ | exact cx_len _ | exact d_len _ _ _ | (simp only [sg_len, cx_len, d_len]) | rfl) (by first | exact sg_one _ | exact cx_one _ | exact d_one _ _ _ | rfl) (by first | exact sg_len _ | exact cx_len _ | exact d_len _ _ _ | (simp only [sg_len, cx_len, d_len]) | rfl) ?_
     | refine o_storebk 1 tabOk rfl rfl rfl rfl (by first | exact sg_len _ | exact cx_len _ | exact d_len _ _ _ | (simp only [sg_len, cx_len, d_len]) | rfl) (by first | exact sg_one _ | exact cx_one _ | exact d_one _ _ _ | rfl) (by first | exact sg_len _ | exact cx_len _ | exact d_len _ _ _ | (simp only [sg_len, cx_len, d_len]) | rfl) ?_
     | refine o_storek 0 tabOk rfl rfl rfl rfl rfl rfl (by first | exact sg_w _ | exact sg_b _ | exact sg_h _ (by omega) | exact cx_pc _ | exact cx_r _ (by omega) | exact d_k _ _ _ | exact d_n _ _ _ | rfl) (by first | exact sg_set_w _ _ | exact sg_set_b _ _ | exact sg_set_h _ (by omega) _ | exact cx_set_pc _ _ | exact cx_set_r _ (by omega) _ | rfl) ?_
     | (refine o_storewk 0 tabOk rfl rfl rfl rfl (cx_len _) (cx_one _) (by rw [sg_len, cx_len]; decide) (sg_set_c _ _) ?_)
     | (refine z_stw rfl ?_; first
     | ((refine z_sti 0 rfl rfl ?_; refine o_storeb0 rfl tabOk rfl rfl rfl (by first | exact sg_len _ | exact cx_len _ | exact d_len _ _ _ | (simp only [sg_len, cx_len, d_len]) | rfl) (by first | exact sg_one _ | exact cx_one _ | exact d_one _ _ _ | rfl) (by first | exact sg_len _ | exact cx_len _ | exact d_len _ _ _ | (simp only [sg_len, cx_len, d_len]) | rfl) ?_))
     | ((refine z_sti 1 rfl rfl ?_; refine o_storeb1 rfl tabOk rfl rfl rfl (by first | exact sg_len _ | exact cx_len _ | exact d_len _ _ _ | (simp only [sg_len, cx_len, d_len]) | rfl) (by first | exact sg_one _ | exact cx_one _ | exact d_one _ _ _ | rfl) (by first | exact sg_len _ | exact cx_len _ | exact d_len _ _ _ | (simp only [sg_len, cx_len, d_len]) | rfl) ?_))
     | ((refine z_sti 2 rfl rfl ?_; refine o_storeb2 rfl tabOk rfl rfl rfl (by first | exact sg_len _ | exact cx_len _ | exact d_len _ _ _ | (simp only [sg_len, cx_len, d_len]) | rfl) (by first | exact sg_one _ | exact cx_one _ | exact d_one _ _ _ | rfl) (by first | exact sg_len _ | exact cx_len _ | exact d_len _ _ _ | (simp only [sg_len, cx_len, d_len]) | rfl) ?_))
     | ((refine z_sti 3 rfl rfl ?_; refine o_storeb3 rfl tabOk rfl rfl rfl (by first | exact sg_len _ | exact cx_len _ | exact d_len _ _ _ | (simp only [sg_len, cx_len, d_len]) | rfl) (by first | exact sg_one _ | exact cx_one _ | exact d_one _ _ _ | rfl) (by first | exact sg_len _ | exact cx_len _ | exact d_len _ _ _ | (simp only [sg_len, cx_len, d_len]) | rfl) ?_))
     | ((refine z_sti 4 rfl rfl ?_; refine o_storeb4 rfl tabOk rfl rfl rfl (by first | exact sg_len _ | exact cx_len _ | exact d_len _ _ _ | (simp only [sg_len, cx_len, d_len]) | rfl) (by first | exact sg_one _ | exact cx_one _ | exact d_one _ _ _ | rfl) (by first | exact sg_len _ | exact cx_len _ | exact d_len _ _ _ | (simp only [sg_len, cx_len, d_len]) | rfl) ?_))
     | ((refine z_sti 5 rfl rfl ?_; refine o_storeb5 rfl tabOk rfl rfl rfl (by first | exact sg_len _ | exact cx_len _ | exact d_len _ _ _ | (simp only [sg_len, cx_len, d_len]) | rfl) (by first | exact sg_one _ | exact cx_one _ | exact d_one _ _ _ | rfl) (by first | exact sg_len _ | exact cx_len _ | exact d_len _ _ _ | (simp only [sg_len, cx_len, d_len]) | rfl) ?_))
     | ((refine z_sti 6 rfl rfl ?_; refine o_storeb6 rfl tabOk rfl rfl rfl (by first | exact sg_len _ | exact cx_len _ | exact d_len _ _ _ | (simp only [sg_len, cx_len, d_len]) | rfl) (by first | exact sg_one _ | exact cx_one _ | exact d_one _ _ _ | rfl) (by first | exact sg_len _ | exact cx_len _ | exact d_len _ _ _ | (simp only [sg_len, cx_len, d_len]) | rfl) ?_)))
     | (refine z_st1 rfl rfl ?_; first
     | refine o_store rfl tabOk rfl rfl rfl rfl rfl (by first | exact sg_w _ | exact sg_b _ | exact sg_h _ (by omega) | exact cx_pc _ | exact cx_r _ (by omega) | exact d_k _ _ _ | exact d_n _ _ _ | rfl) (by first | exact sg_set_w _ _ | exact sg_set_b _ _ | exact sg_set_h _ (by omega) _ | exact cx_set_pc _ _ | exact cx_set_r _ (by omega) _ | rfl) ?_
     | ((refine z_sti 1 rfl rfl ?_; refine o_store1 rfl tabOk rfl rfl rfl rfl rfl (by first | exact sg_w _ | exact sg_b _ | exact sg_h _ (by omega) | exact cx_pc _ | exact cx_r _ (by omega) | exact d_k _ _ _ | exact d_n _ _ _ | rfl) (by first | exact sg_set_w _ _ | exact sg_set_b _ _ | exact sg_set_h _ (by omega) _ | exact cx_set_pc _ _ | exact cx_set_r _ (by omega) _ | rfl) ?_))
     | ((refine z_sti 2 rfl rfl ?_; refine o_store2 rfl tabOk rfl rfl rfl rfl rfl (by first | exact sg_w _ | exact sg_b _ | exact sg_h _ (by omega) | exact cx_pc _ | exact cx_r _ (by omega) | exact d_k _ _ _ | exact d_n _ _ _ | rfl) (by first | exact sg_set_w _ _ | exact sg_set_b _ _ | exact sg_set_h _ (by omega) _ | exact cx_set_pc _ _ | exact cx_set_r _ (by omega) _ | rfl) ?_))
     | ((refine z_sti 3 rfl rfl ?_; refine o_store3 rfl tabOk rfl rfl rfl rfl rfl (by first | exact sg_w _ | exact sg_b _ | exact sg_h _ (by omega) | exact cx_pc _ | exact cx_r _ (by omega) | exact d_k _ _ _ | exact d_n _ _ _ | rfl) (by first | exact sg_set_w _ _ | exact sg_set_b _ _ | exact sg_set_h _ (by omega) _ | exact cx_set_pc _ _ | exact cx_set_r _ (by omega) _ | rfl) ?_))
     | ((refine z_sti 4 rfl rfl ?_; refine o_store4 rfl tabOk rfl rfl rfl rfl rfl (by first | exact sg_w _ | exact sg_b _ | exact sg_h _ (by omega) | exact cx_pc _ | exact cx_r _ (by omega) | exact d_k _ _ _ | exact d_n _ _ _ | rfl) (by first | exact sg_set_w _ _ | exact sg_set_b _ _ | exact sg_set_h _ (by omega) _ | exact cx_set_pc _ _ | exact cx_set_r _ (by omega) _ | rfl) ?_))
     | ((refine z_sti 5 rfl rfl ?_; refine o_store5 rfl tabOk rfl rfl rfl rfl rfl (by first | exact sg_w _ | exact sg_b _ | exact sg_h _ (by omega) | exact cx_pc _ | exact cx_r _ (by omega) | exact d_k _ _ _ | exact d_n _ _ _ | rfl) (by first | exact sg_set_w _ _ | exact sg_set_b _ _ | exact sg_set_h _ (by omega) _ | exact cx_set_pc _ _ | exact cx_set_r _ (by omega) _ | rfl) ?_))
     | ((refine z_sti 6 rfl rfl ?_; refine o_store6 rfl tabOk rfl rfl rfl rfl rfl (by first | exact sg_w _ | exact sg_b _ | exact sg_h _ (by omega) | exact cx_pc _ | exact cx_r _ (by omega) | exact d_k _ _ _ | exact d_n _ _ _ | rfl) (by first | exact sg_set_w _ _ | exact sg_set_b _ _ | exact sg_set_h _ (by omega) _ | exact cx_set_pc _ _ | exact cx_set_r _ (by omega) _ | rfl) ?_))))
     | (refine z_iscall ?_; first
     | ((refine z_iscallf 20 ?_; refine o_calla Tryd.func20 rfl rfl rfl (tz_c _ _ (Rds.cons _ (Rds.cons _ (Rds.cons _ (Rds.cons _ hT))))) (by decide) fun _ _ => ?_))
     | ((refine z_iscallf 10 ?_; refine o_fn rfl Tryd.func10 rfl rfl rfl (waits_fn _ _) (by decide) ?_)))
     | (refine z_ispick ?_; first
     | (refine o_pick1 rfl (by first | with_reducible rfl | with_reducible assumption | ((with_reducible refine decide_eq_true ?_); first | with_reducible rfl | with_reducible assumption | omega)) rfl (by decide) ?_)
     | (refine o_pick0 rfl (by first | with_reducible rfl | with_reducible assumption | ((with_reducible refine decide_eq_false ?_); first | with_reducible assumption | omega)) rfl (by decide) ?_)
     | (refine o_pick1 rfl (by first | (simp only [Bool.not_eq_true', decide_eq_false_iff_not]; omega) | (with_reducible assumption) | (rw [decide_eq_false] <;> (first | omega | with_reducible rfl)) | (rw [decide_eq_true] <;> (first | omega | with_reducible rfl)) | (simp; done) | (simp; omega)) rfl (by decide) ?_)
     | (refine o_pick0 rfl (by first | (simp only [Bool.not_eq_false', decide_eq_true_eq]; omega) | (with_reducible assumption) | (rw [decide_eq_false] <;> (first | omega | with_reducible rfl)) | (rw [decide_eq_true] <;> (first | omega | with_reducible rfl)) | (simp; done) | (simp; omega)) rfl (by decide) ?_))
     | (refine z_isix ?_; first
     | refine o_index0 tabOk rfl rfl rfl rfl (by omega) (by omega) (by decide) ?_
     | refine o_index1 tabOk rfl rfl rfl rfl (by omega) (by omega) (by decide) ?_
     | refine o_indexsk tabOk rfl rfl rfl rfl (by omega) (by omega) (by decide) ?_
     | refine o_indexs1 tabOk (by first | assumption) rfl rfl rfl rfl (by omega) (by omega) (by decide) ?_)
     | refine o_move rfl (by decide) ?_
     | refine o_assign rfl (by decide) ?_
     | refine o_nil rfl (by decide) ?_
     | refine o_extract rfl rfl (by decide) ?_
     | refine o_not rfl (by decide) ?_
     | refine o_field0 tabOk rfl rfl rfl rfl rfl (by decide) ?_
     | refine o_field tabOk rfl rfl rfl rfl rfl (by decide) ?_
     | refine o_conv tabOk rfl rfl rfl (by decide) ?_))
end Go.Proofs.YtjejnlfbonpfaaaDoor
