/-
More walks over package sig: the lowest bit, what a return restores, what a program does next.
-/
import Derived.Test.YtjejnlfbonpfaaaDoorSig
import Derived.Test.YtjejnlfbonpfaaaDoorEngT
namespace Go.Proofs.YtjejnlfbonpfaaaDoor
set_option linter.unusedVariables false
set_option linter.unusedSimpArgs false
open Eng
theorem sg_split (s : Sg) : s.cs = (Value.int .u16 s.w :: (hsCs s.h ++ [.bool s.b])) ++ s.c.cs := by simp [Sg.cs]
theorem sg_set_c (s : Sg) (c : Cx) : s.cs.take 11 ++ c.cs ++ s.cs.drop (11 + c.cs.length) = ({ s with c := c } : Sg).cs := by
  have hl : (Value.int .u16 s.w :: (hsCs s.h ++ [.bool s.b])).length = 11 := by simp [hs_len]
  rw [List.drop_eq_nil_of_le (by rw [sg_len, cx_len]; omega), List.append_nil, sg_split s, List.take_append_of_le_length (by omega), List.take_of_length_le (by omega), sg_split]
theorem cx_pc (c : Cx) : c.cs[16]? = some (.int .u32 c.pc) := by
  unfold Cx.cs
  rw [arr_getr (by omega)]; rfl
theorem cx_r (c : Cx) {i : Nat} (h : i < 16) : c.cs[i]? = some (.int .u32 (c.r i)) := by
  unfold Cx.cs
  rw [arr_getl h]
theorem cx_set_pc (c : Cx) (x : Int) : c.cs.set 16 (.int .u32 x) = ({ c with pc := x } : Cx).cs := by
  unfold Cx.cs
  rw [arr_setr (by omega)]; rfl
theorem cx_set_r (c : Cx) {i : Nat} (h : i < 16) (x : Int) : c.cs.set i (.int .u32 x) = ({ c with r := upd c.r i x } : Cx).cs := by
  unfold Cx.cs
  rw [arr_setl h]
  congr 2
  funext j
  by_cases e : j = i <;> simp [upd, e]
/-- What a program is told. -/
def dCs (k n : Int) (c : Cx) : List Value := .int .i64 k :: .int .i64 n :: c.cs
theorem d_len (k n : Int) (c : Cx) : (dCs k n c).length = 19 := by simp [dCs, cx_len]
theorem d_one (k n : Int) (c : Cx) : (dCs k n c).all (·.oneCell') = true := by
  simp only [dCs, List.all_cons, cx_one, Bool.and_true]; rfl
theorem d_k (k n : Int) (c : Cx) : (dCs k n c)[0]? = some (.int .i64 k) := rfl
theorem d_n (k n : Int) (c : Cx) : (dCs k n c)[1]? = some (.int .i64 n) := rfl
theorem d_c (k n : Int) (c : Cx) : ∀ (j : Nat) u, c.cs[j]? = some u → (dCs k n c)[2 + j]? = some u := fun j u h => by
  rw [Nat.add_comm]; exact h
theorem d_fill (k n : Int) (c : Cx) : Filled (fun i => [(0, 1), (1, 1), (2, 17)][i]?) [(0, .int .i64 k), (1, .int .i64 n), (2, .agg c.cs.toArray)] (dCs 0 0 Cx.zero) (dCs k n c) := by
  refine ⟨0, 1, rfl, rfl, by rw [d_len]; decide, 1, 1, rfl, rfl, ?_, 2, 17, rfl, by simp [Value.cells, cx_len], ?_, ?_⟩
  · simp [Value.cells, dCs, cx_len]
  · simp [Value.cells, dCs, cx_len]
  · show _ = _
    simp [Value.cells, dCs, cx_len]
theorem d_fill2 (c : Cx) : Filled (fun i => [(0, 1), (1, 1), (2, 17)][i]?) [(2, .agg c.cs.toArray)] (dCs 0 0 Cx.zero) (dCs 0 0 c) := by
  refine ⟨2, 17, rfl, by simp [Value.cells, cx_len], by rw [d_len]; decide, ?_⟩
  show _ = _
  simp [Value.cells, dCs, cx_len]
theorem s_fill (x : Int) : Filled (fun i => [(0, 1), (1, 9), (10, 1), (11, 17)][i]?) [(0, .int .u16 x)] Sg.zero.cs ({ Sg.zero with w := x } : Sg).cs := by
  refine ⟨0, 1, rfl, rfl, by rw [sg_len]; decide, ?_⟩
  show _ = _
  simp [Value.cells, Sg.cs]
/- The table of lowest bits. -/
def deT : List Int := [0, 1, 28, 2, 29, 14, 24, 3, 30, 22, 20, 15, 25, 17, 4, 8, 31, 27, 13, 23, 21, 19, 16, 7, 26, 12, 18, 6, 11, 5, 10, 9]
def deB : List Value := deT.map (.int .u8)
theorem deB_at {k : Nat} (h : k < 32) : deB[k]? = some (.int .u8 (deT.getD k 0)) := by
  have : k < deT.length := h
  simp [deB, List.getD, this]
def tzi (w : Int) : Int := shrv .u32 (IntKind.u32.wrap (IntKind.u32.wrap (bitv .and .u16 w (IntKind.u16.wrap (0 - w))) * 125613361)) 27
theorem tzi_lt (w : Int) : 0 ≤ tzi w ∧ tzi w < 32 := by
  unfold tzi shrv
  generalize IntKind.u32.wrap (bitv .and .u16 w (IntKind.u16.wrap (0 - w))) * 125613361 = z
  rw [show (2 : Int) ^ (min (27 : Int).toNat IntKind.u32.bits) = 134217728 from rfl, Int.fdiv_eq_ediv_of_nonneg _ (by decide), IntKind.wrap_u32]
  omega
def tz (w : Int) : Int := if w = 0 then 16 else IntKind.i64.wrap (deT.getD (tzi w).toNat 0)
attribute [local irreducible] Eng.Hold Eng.Z Eng.S Eng.cells Eng.old Eng.own Sg.cs Cx.cs hsCs deB deT tzi dCs
theorem tz_c (w : Int) (fr : List Chunk) (hT : Rds fr (some ⟨0, 0, none⟩) deB) : Does Tryd.prog 20 [.int .u16 w] fr (fun _ : Unit => True) (fun _ => .int .i64 (tz w)) (fun _ => fr) := by
  intro W hw
  have h1 := tzi_lt w
  refine f_enter Tryd.func20 rfl Tryd.ntmps20 rfl hw ?_
  unfold tz
  by_cases h : w = 0
  · rw [if_pos h]
    repeat' (first
     | (refine s_is ?_; first
     | (refine s_isret ?_; first
     | exact f_r1 rfl (res_t rfl) () trivial rfl (fun w h => h))
     | (refine s_isw ?_; first
     | refine c_seq ?_
     | refine c_block ?_
     | refine c_region ?_
     | refine c_mixed mixed (by kernel_rfl) ?_
     | refine c_skip ?_
     | refine c_ret ?_
     | refine c_exit ?_
     | (refine s_iscond ?_; first
     | (refine c_true rfl (by first | with_reducible rfl | with_reducible assumption | ((with_reducible refine decide_eq_true ?_); first | with_reducible rfl | with_reducible assumption | omega)) ?_)
     | (refine c_false rfl (by first | with_reducible rfl | with_reducible assumption | ((with_reducible refine decide_eq_false ?_); first | with_reducible assumption | omega)) ?_)
     | (refine c_true rfl (by first | (simp only [Bool.not_eq_true', decide_eq_false_iff_not]; omega) | (with_reducible assumption) | (rw [decide_eq_false] <;> (first | omega | with_reducible rfl)) | (rw [decide_eq_true] <;> (first | omega | with_reducible rfl)) | (simp; done) | (simp; omega)) ?_)
     | (refine c_false rfl (by first | (simp only [Bool.not_eq_false', decide_eq_true_eq]; omega) | (with_reducible assumption) | (rw [decide_eq_false] <;> (first | omega | with_reducible rfl)) | (rw [decide_eq_true] <;> (first | omega | with_reducible rfl)) | (simp; done) | (simp; omega)) ?_)
     | refine c_cond rfl (fun hc => ?_) (fun hc => ?_)
     | refine c_condb rfl (fun hc => ?_) (fun hc => ?_)))
     | refine x_then ?_
     | refine x_then_ret ?_
     | refine x_then_exit ?_
     | refine x_block _ ?_
     | refine x_block_ret _ ?_
     | refine x_block_exit _ ?_
     | refine x_block_past (by decide) ?_
     | refine z_tailm ?_)
     | (refine z_isnil ?_; first
     | refine z_list ?_
     | refine z_mixed ?_
     | refine z_mono0 ?_
     | refine z_mono1 (by decide) fun g => ?_
     | refine z_mono2 (by decide) (by decide) fun g g' => ?_
     | refine z_mixedx ?_
     | refine z_quiet ?_)
     | (refine z_isop ?_; first
     | (refine z_isbin ?_; first
     | (refine z_isb .mul ?_; first
     | refine o_mul rfl rfl (by omega) (by omega) (by decide) ?_
     | refine o_mulw rfl rfl (by decide) ?_)
     | (refine z_isb .eql ?_; first
     | refine o_eq rfl rfl (by decide) ?_
     | refine o_beq tabOk rfl rfl rfl (by decide) ?_
     | refine o_peq tabOk rfl rfl (by decide) ?_)
     | (refine z_isb .and ?_; first
     | refine o_and rfl rfl (by decide) ?_)
     | (refine z_isb .shr ?_; first
     | refine o_shr rfl rfl (by omega) (by decide) ?_))
     | (refine z_isload ?_; first
     | (refine z_ld1 tabOk rfl rfl ?_; first
     | refine o_loadm tabOk rfl rfl rfl (by repeat' (first | exact List.mem_cons_self | apply List.mem_cons_of_mem)) (by first | exact sg_w _ | exact sg_b _ | exact sg_h _ (by omega) | exact cx_pc _ | exact cx_r _ (by omega) | exact d_k _ _ _ | exact d_n _ _ _ | exact deB_at (by omega) | rfl) (by decide) ?_
     | refine o_loads tabOk (by first | assumption | exact Rds.cons _ (by assumption) | exact Rds.cons _ (Rds.cons _ (by assumption)) | exact own_rds 0 rfl | exact own_rds 1 rfl | exact own_rds 2 rfl) rfl rfl rfl (by first | exact sg_w _ | exact sg_b _ | exact sg_h _ (by omega) | exact cx_pc _ | exact cx_r _ (by omega) | exact d_k _ _ _ | exact d_n _ _ _ | exact deB_at (by omega) | rfl) (by decide) ?_)
     | (refine z_ldw tabOk rfl rfl ?_; first
     | refine o_loadwm tabOk rfl rfl rfl (by repeat' (first | exact List.mem_cons_self | apply List.mem_cons_of_mem)) (by first | exact sg_len _ | exact cx_len _ | exact d_len _ _ _ | (simp only [sg_len, cx_len, d_len]) | rfl) (by decide) ?_))
     | (refine z_isix ?_; first
     | refine o_index0 tabOk rfl rfl rfl rfl (by omega) (by omega) (by decide) ?_
     | refine o_index1 tabOk rfl rfl rfl rfl (by omega) (by omega) (by decide) ?_
     | refine o_indexsk tabOk rfl rfl rfl rfl (by omega) (by omega) (by decide) ?_
     | refine o_indexs1 tabOk (by first | assumption) rfl rfl rfl rfl (by omega) (by omega) (by decide) ?_)
     | refine o_move rfl (by decide) ?_
     | refine o_assign rfl (by decide) ?_
     | refine o_nil rfl (by decide) ?_
     | refine o_extract rfl rfl (by decide) ?_
     | refine o_not rfl (by decide) ?_
     | refine o_field0 tabOk rfl rfl rfl rfl rfl (by decide) ?_
     | refine o_field tabOk rfl rfl rfl rfl rfl (by decide) ?_
     | refine o_conv tabOk rfl rfl rfl (by decide) ?_))
  · rw [if_neg h]
    repeat' (first
     | (refine s_is ?_; first
     | (refine s_isret ?_; first
     | exact f_r1 rfl (res_t rfl) () trivial rfl (fun w h => h))
     | (refine s_isw ?_; first
     | refine c_seq ?_
     | refine c_block ?_
     | refine c_region ?_
     | refine c_mixed mixed (by kernel_rfl) ?_
     | refine c_skip ?_
     | refine c_ret ?_
     | refine c_exit ?_
     | (refine s_iscond ?_; first
     | (refine c_true rfl (by first | with_reducible rfl | with_reducible assumption | ((with_reducible refine decide_eq_true ?_); first | with_reducible rfl | with_reducible assumption | omega)) ?_)
     | (refine c_false rfl (by first | with_reducible rfl | with_reducible assumption | ((with_reducible refine decide_eq_false ?_); first | with_reducible assumption | omega)) ?_)
     | (refine c_true rfl (by first | (simp only [Bool.not_eq_true', decide_eq_false_iff_not]; omega) | (with_reducible assumption) | (rw [decide_eq_false] <;> (first | omega | with_reducible rfl)) | (rw [decide_eq_true] <;> (first | omega | with_reducible rfl)) | (simp; done) | (simp; omega)) ?_)
     | (refine c_false rfl (by first | (simp only [Bool.not_eq_false', decide_eq_true_eq]; omega) | (with_reducible assumption) | (rw [decide_eq_false] <;> (first | omega | with_reducible rfl)) | (rw [decide_eq_true] <;> (first | omega | with_reducible rfl)) | (simp; done) | (simp; omega)) ?_)
     | refine c_cond rfl (fun hc => ?_) (fun hc => ?_)
     | refine c_condb rfl (fun hc => ?_) (fun hc => ?_)))
     | refine x_then ?_
     | refine x_then_ret ?_
     | refine x_then_exit ?_
     | refine x_block _ ?_
     | refine x_block_ret _ ?_
     | refine x_block_exit _ ?_
     | refine x_block_past (by decide) ?_
     | refine z_tailm ?_)
     | (refine z_isnil ?_; first
     | refine z_list ?_
     | refine z_mixed ?_
     | refine z_mono0 ?_
     | refine z_mono1 (by decide) fun g => ?_
     | refine z_mono2 (by decide) (by decide) fun g g' => ?_
     | refine z_mixedx ?_
     | refine z_quiet ?_)
     | (refine z_isop ?_; first
     | refine o_neg rfl (by decide) ?_
     | refine o_shre (v := tzi w) (by with_unfolding_all rfl) rfl rfl (by decide) (by decide) ?_
     | (refine z_isbin ?_; first
     | (refine z_isb .mul ?_; first
     | refine o_mul rfl rfl (by omega) (by omega) (by decide) ?_
     | refine o_mulw rfl rfl (by decide) ?_)
     | (refine z_isb .eql ?_; first
     | refine o_eq rfl rfl (by decide) ?_
     | refine o_beq tabOk rfl rfl rfl (by decide) ?_
     | refine o_peq tabOk rfl rfl (by decide) ?_)
     | (refine z_isb .and ?_; first
     | refine o_and rfl rfl (by decide) ?_)
     | (refine z_isb .shr ?_; first
     | refine o_shr rfl rfl (by omega) (by decide) ?_))
     | (refine z_isload ?_; first
     | refine o_loadr tabOk hT rfl rfl rfl (deB_at (by omega)) (by decide) ?_
     | (refine z_ld1 tabOk rfl rfl ?_; first
     | refine o_loadm tabOk rfl rfl rfl (by repeat' (first | exact List.mem_cons_self | apply List.mem_cons_of_mem)) (by first | exact sg_w _ | exact sg_b _ | exact sg_h _ (by omega) | exact cx_pc _ | exact cx_r _ (by omega) | exact d_k _ _ _ | exact d_n _ _ _ | exact deB_at (by omega) | rfl) (by decide) ?_
     | refine o_loads tabOk (by first | assumption | exact Rds.cons _ (by assumption) | exact Rds.cons _ (Rds.cons _ (by assumption)) | exact own_rds 0 rfl | exact own_rds 1 rfl | exact own_rds 2 rfl) rfl rfl rfl (by first | exact sg_w _ | exact sg_b _ | exact sg_h _ (by omega) | exact cx_pc _ | exact cx_r _ (by omega) | exact d_k _ _ _ | exact d_n _ _ _ | exact deB_at (by omega) | rfl) (by decide) ?_)
     | (refine z_ldw tabOk rfl rfl ?_; first
     | refine o_loadwm tabOk rfl rfl rfl (by repeat' (first | exact List.mem_cons_self | apply List.mem_cons_of_mem)) (by first | exact sg_len _ | exact cx_len _ | exact d_len _ _ _ | (simp only [sg_len, cx_len, d_len]) | rfl) (by decide) ?_))
     | (refine z_isix ?_; first
     | refine o_index0 tabOk rfl rfl rfl rfl (by omega) (by omega) (by decide) ?_
     | refine o_index1 tabOk rfl rfl rfl rfl (by omega) (by omega) (by decide) ?_
     | refine o_indexsk tabOk rfl rfl rfl rfl (by omega) (by omega) (by decide) ?_
     | refine o_indexs1 tabOk (by first | assumption) rfl rfl rfl rfl (by omega) (by omega) (by decide) ?_)
     | refine o_move rfl (by decide) ?_
     | refine o_assign rfl (by decide) ?_
     | refine o_nil rfl (by decide) ?_
     | refine o_extract rfl rfl (by decide) ?_
     | refine o_not rfl (by decide) ?_
     | refine o_field0 tabOk rfl rfl rfl rfl rfl (by decide) ?_
     | refine o_field tabOk rfl rfl rfl rfl rfl (by decide) ?_
     | refine o_conv tabOk rfl rfl rfl (by decide) ?_))
/-- After a handler's return. -/
def Sg.ret (s : Sg) : Sg := if s.b then { s with b := false, c := Cx.zero } else s
theorem exec_fn (s : Sg) : Pf Tryd.prog 19 [.agg s.cs.toArray] (.agg ({ Sg.zero with w := s.w } : Sg).cs.toArray) := by
  intro w hw
  refine f_enter Tryd.func19 rfl Tryd.ntmps19 rfl hw ?_
  repeat' (first
   | (refine s_is ?_; first
   | (refine s_isret ?_; first
   | exact p_r1 rfl (res_c tabOk rfl rfl rfl 0 rfl (sg_len _)))
   | (refine s_isw ?_; first
   | refine c_seq ?_
   | refine c_block ?_
   | refine c_region ?_
   | refine c_mixed mixed (by kernel_rfl) ?_
   | refine c_skip ?_
   | refine c_ret ?_
   | refine c_exit ?_
   | (refine s_iscond ?_; first
   | (refine c_true rfl (by first | with_reducible rfl | with_reducible assumption | ((with_reducible refine decide_eq_true ?_); first | with_reducible rfl | with_reducible assumption | omega)) ?_)
   | (refine c_false rfl (by first | with_reducible rfl | with_reducible assumption | ((with_reducible refine decide_eq_false ?_); first | with_reducible assumption | omega)) ?_)
   | (refine c_true rfl (by first | (simp only [Bool.not_eq_true', decide_eq_false_iff_not]; omega) | (with_reducible assumption) | (rw [decide_eq_false] <;> (first | omega | with_reducible rfl)) | (rw [decide_eq_true] <;> (first | omega | with_reducible rfl)) | (simp; done) | (simp; omega)) ?_)
   | (refine c_false rfl (by first | (simp only [Bool.not_eq_false', decide_eq_true_eq]; omega) | (with_reducible assumption) | (rw [decide_eq_false] <;> (first | omega | with_reducible rfl)) | (rw [decide_eq_true] <;> (first | omega | with_reducible rfl)) | (simp; done) | (simp; omega)) ?_)
   | refine c_cond rfl (fun hc => ?_) (fun hc => ?_)
   | refine c_condb rfl (fun hc => ?_) (fun hc => ?_)))
   | refine x_then ?_
   | refine x_then_ret ?_
   | refine x_then_exit ?_
   | refine x_block _ ?_
   | refine x_block_ret _ ?_
   | refine x_block_exit _ ?_
   | refine x_block_past (by decide) ?_
   | refine z_tailm ?_)
   | (refine z_isnil ?_; first
   | refine z_keep1 ?_
   | refine z_keep2 ?_
   | refine z_list ?_
   | refine z_mixed ?_
   | refine z_mono0 ?_
   | refine z_mono1 (by decide) fun g => ?_
   | refine z_mono2 (by decide) (by decide) fun g g' => ?_
   | refine z_mixedx ?_
   | refine z_quiet ?_)
   | (refine z_isop ?_; first
   | refine o_buildf (zs := Sg.zero.cs) tabOk rfl rfl (by kernel_rfl) rfl (s_fill _) (by decide) ?_
   | refine o_boxa rfl rfl (by decide) fun g => ?_
   | refine o_alloca (e := 30) (vs := Sg.zero.cs) rfl (by kernel_rfl) (by decide) fun g => ?_
   | refine o_alloca (e := 26) (vs := Cx.zero.cs) rfl (by kernel_rfl) (by decide) fun g => ?_
   | refine o_alloca (e := 40) (vs := dCs 0 0 Cx.zero) rfl (by kernel_rfl) (by decide) fun g => ?_
   | refine o_build (v := .agg Cx.zero.cs.toArray) rfl (fun _ => by kernel_rfl) (by decide) ?_
   | (refine z_isload ?_; first
   | refine o_loadp tabOk rfl rfl rfl 0 rfl (cx_len _) (sg_c _) (by decide) ?_
   | refine o_loadp tabOk rfl rfl rfl 1 rfl (cx_len _) (sg_c _) (by decide) ?_
   | refine o_loadp tabOk rfl rfl rfl 2 rfl (cx_len _) (sg_c _) (by decide) ?_
   | refine o_loadp tabOk rfl rfl rfl 3 rfl (cx_len _) (sg_c _) (by decide) ?_
   | (refine z_ld1 tabOk rfl rfl ?_; first
   | refine o_loadm tabOk rfl rfl rfl (by repeat' (first | exact List.mem_cons_self | apply List.mem_cons_of_mem)) (by first | exact sg_w _ | exact sg_b _ | exact sg_h _ (by omega) | exact cx_pc _ | exact cx_r _ (by omega) | exact d_k _ _ _ | exact d_n _ _ _ | exact deB_at (by omega) | rfl) (by decide) ?_
   | refine o_loads tabOk (by first | assumption | exact Rds.cons _ (by assumption) | exact Rds.cons _ (Rds.cons _ (by assumption)) | exact own_rds 0 rfl | exact own_rds 1 rfl | exact own_rds 2 rfl) rfl rfl rfl (by first | exact sg_w _ | exact sg_b _ | exact sg_h _ (by omega) | exact cx_pc _ | exact cx_r _ (by omega) | exact d_k _ _ _ | exact d_n _ _ _ | exact deB_at (by omega) | rfl) (by decide) ?_)
   | (refine z_ldw tabOk rfl rfl ?_; first
   | refine o_loadwm tabOk rfl rfl rfl (by repeat' (first | exact List.mem_cons_self | apply List.mem_cons_of_mem)) (by first | exact sg_len _ | exact cx_len _ | exact d_len _ _ _ | (simp only [sg_len, cx_len, d_len]) | rfl) (by decide) ?_))
   | (refine z_isstore ?_; first
   | (refine o_storew_at rfl 0 tabOk rfl rfl rfl rfl (cx_len _) (cx_one _) (by rw [sg_len, cx_len]; decide) (sg_set_c _ _) ?_)
   | (refine o_storew_at rfl 1 tabOk rfl rfl rfl rfl (cx_len _) (cx_one _) (by rw [sg_len, cx_len]; decide) (sg_set_c _ _) ?_)
   | (refine o_storew_at rfl 2 tabOk rfl rfl rfl rfl (cx_len _) (cx_one _) (by rw [sg_len, cx_len]; decide) (sg_set_c _ _) ?_)
   | (refine o_storew_at rfl 3 tabOk rfl rfl rfl rfl (cx_len _) (cx_one _) (by rw [sg_len, cx_len]; decide) (sg_set_c _ _) ?_)
   | refine o_storebk 0 tabOk rfl rfl rfl rfl (by first | exact sg_len _ | exact cx_len _ | exact d_len _ _ _ | (simp only [sg_len, cx_len, d_len]) | rfl) (by first | exact sg_one _ | exact cx_one _ | exact d_one _ _ _ | rfl) (by first | exact sg_len _ | exact cx_len _ | exact d_len _ _ _ | (simp only [sg_len, cx_len, d_len]) | rfl) ?_
   | refine o_storebk 1 tabOk rfl rfl rfl rfl (by first | exact sg_len _ | exact cx_len _ | exact d_len _ _ _ | (simp only [sg_len, cx_len, d_len]) | rfl) (by first | exact sg_one _ | exact cx_one _ | exact d_one _ _ _ | rfl) (by first | exact sg_len _ | exact cx_len _ | exact d_len _ _ _ | (simp only [sg_len, cx_len, d_len]) | rfl) ?_
   | refine o_storek 0 tabOk rfl rfl rfl rfl rfl rfl (by first | exact sg_w _ | exact sg_b _ | exact sg_h _ (by omega) | exact cx_pc _ | exact cx_r _ (by omega) | exact d_k _ _ _ | exact d_n _ _ _ | exact deB_at (by omega) | rfl) (by first | exact sg_set_w _ _ | exact sg_set_b _ _ | exact sg_set_h _ (by omega) _ | exact cx_set_pc _ _ | exact cx_set_r _ (by omega) _ | rfl) ?_
   | (refine o_storewk 0 tabOk rfl rfl rfl rfl (cx_len _) (cx_one _) (by rw [sg_len, cx_len]; decide) (sg_set_c _ _) ?_)
   | (refine z_stw rfl ?_; first
   | ((refine z_sti 0 rfl rfl ?_; refine o_storeb0 rfl tabOk rfl rfl rfl (by first | exact sg_len _ | exact cx_len _ | exact d_len _ _ _ | (simp only [sg_len, cx_len, d_len]) | rfl) (by first | exact sg_one _ | exact cx_one _ | exact d_one _ _ _ | rfl) (by first | exact sg_len _ | exact cx_len _ | exact d_len _ _ _ | (simp only [sg_len, cx_len, d_len]) | rfl) ?_))
   | ((refine z_sti 1 rfl rfl ?_; refine o_storeb1 rfl tabOk rfl rfl rfl (by first | exact sg_len _ | exact cx_len _ | exact d_len _ _ _ | (simp only [sg_len, cx_len, d_len]) | rfl) (by first | exact sg_one _ | exact cx_one _ | exact d_one _ _ _ | rfl) (by first | exact sg_len _ | exact cx_len _ | exact d_len _ _ _ | (simp only [sg_len, cx_len, d_len]) | rfl) ?_))
   | ((refine z_sti 2 rfl rfl ?_; refine o_storeb2 rfl tabOk rfl rfl rfl (by first | exact sg_len _ | exact cx_len _ | exact d_len _ _ _ | (simp only [sg_len, cx_len, d_len]) | rfl) (by first | exact sg_one _ | exact cx_one _ | exact d_one _ _ _ | rfl) (by first | exact sg_len _ | exact cx_len _ | exact d_len _ _ _ | (simp only [sg_len, cx_len, d_len]) | rfl) ?_))
   | ((refine z_sti 3 rfl rfl ?_; refine o_storeb3 rfl tabOk rfl rfl rfl (by first | exact sg_len _ | exact cx_len _ | exact d_len _ _ _ | (simp only [sg_len, cx_len, d_len]) | rfl) (by first | exact sg_one _ | exact cx_one _ | exact d_one _ _ _ | rfl) (by first | exact sg_len _ | exact cx_len _ | exact d_len _ _ _ | (simp only [sg_len, cx_len, d_len]) | rfl) ?_))
   | ((refine z_sti 4 rfl rfl ?_; refine o_storeb4 rfl tabOk rfl rfl rfl (by first | exact sg_len _ | exact cx_len _ | exact d_len _ _ _ | (simp only [sg_len, cx_len, d_len]) | rfl) (by first | exact sg_one _ | exact cx_one _ | exact d_one _ _ _ | rfl) (by first | exact sg_len _ | exact cx_len _ | exact d_len _ _ _ | (simp only [sg_len, cx_len, d_len]) | rfl) ?_))
   | ((refine z_sti 5 rfl rfl ?_; refine o_storeb5 rfl tabOk rfl rfl rfl (by first | exact sg_len _ | exact cx_len _ | exact d_len _ _ _ | (simp only [sg_len, cx_len, d_len]) | rfl) (by first | exact sg_one _ | exact cx_one _ | exact d_one _ _ _ | rfl) (by first | exact sg_len _ | exact cx_len _ | exact d_len _ _ _ | (simp only [sg_len, cx_len, d_len]) | rfl) ?_))
   | ((refine z_sti 6 rfl rfl ?_; refine o_storeb6 rfl tabOk rfl rfl rfl (by first | exact sg_len _ | exact cx_len _ | exact d_len _ _ _ | (simp only [sg_len, cx_len, d_len]) | rfl) (by first | exact sg_one _ | exact cx_one _ | exact d_one _ _ _ | rfl) (by first | exact sg_len _ | exact cx_len _ | exact d_len _ _ _ | (simp only [sg_len, cx_len, d_len]) | rfl) ?_)))
   | (refine z_st1 rfl rfl ?_; first
   | refine o_store rfl tabOk rfl rfl rfl rfl rfl (by first | exact sg_w _ | exact sg_b _ | exact sg_h _ (by omega) | exact cx_pc _ | exact cx_r _ (by omega) | exact d_k _ _ _ | exact d_n _ _ _ | exact deB_at (by omega) | rfl) (by first | exact sg_set_w _ _ | exact sg_set_b _ _ | exact sg_set_h _ (by omega) _ | exact cx_set_pc _ _ | exact cx_set_r _ (by omega) _ | rfl) ?_
   | ((refine z_sti 1 rfl rfl ?_; refine o_store1 rfl tabOk rfl rfl rfl rfl rfl (by first | exact sg_w _ | exact sg_b _ | exact sg_h _ (by omega) | exact cx_pc _ | exact cx_r _ (by omega) | exact d_k _ _ _ | exact d_n _ _ _ | exact deB_at (by omega) | rfl) (by first | exact sg_set_w _ _ | exact sg_set_b _ _ | exact sg_set_h _ (by omega) _ | exact cx_set_pc _ _ | exact cx_set_r _ (by omega) _ | rfl) ?_))
   | ((refine z_sti 2 rfl rfl ?_; refine o_store2 rfl tabOk rfl rfl rfl rfl rfl (by first | exact sg_w _ | exact sg_b _ | exact sg_h _ (by omega) | exact cx_pc _ | exact cx_r _ (by omega) | exact d_k _ _ _ | exact d_n _ _ _ | exact deB_at (by omega) | rfl) (by first | exact sg_set_w _ _ | exact sg_set_b _ _ | exact sg_set_h _ (by omega) _ | exact cx_set_pc _ _ | exact cx_set_r _ (by omega) _ | rfl) ?_))
   | ((refine z_sti 3 rfl rfl ?_; refine o_store3 rfl tabOk rfl rfl rfl rfl rfl (by first | exact sg_w _ | exact sg_b _ | exact sg_h _ (by omega) | exact cx_pc _ | exact cx_r _ (by omega) | exact d_k _ _ _ | exact d_n _ _ _ | exact deB_at (by omega) | rfl) (by first | exact sg_set_w _ _ | exact sg_set_b _ _ | exact sg_set_h _ (by omega) _ | exact cx_set_pc _ _ | exact cx_set_r _ (by omega) _ | rfl) ?_))
   | ((refine z_sti 4 rfl rfl ?_; refine o_store4 rfl tabOk rfl rfl rfl rfl rfl (by first | exact sg_w _ | exact sg_b _ | exact sg_h _ (by omega) | exact cx_pc _ | exact cx_r _ (by omega) | exact d_k _ _ _ | exact d_n _ _ _ | exact deB_at (by omega) | rfl) (by first | exact sg_set_w _ _ | exact sg_set_b _ _ | exact sg_set_h _ (by omega) _ | exact cx_set_pc _ _ | exact cx_set_r _ (by omega) _ | rfl) ?_))
   | ((refine z_sti 5 rfl rfl ?_; refine o_store5 rfl tabOk rfl rfl rfl rfl rfl (by first | exact sg_w _ | exact sg_b _ | exact sg_h _ (by omega) | exact cx_pc _ | exact cx_r _ (by omega) | exact d_k _ _ _ | exact d_n _ _ _ | exact deB_at (by omega) | rfl) (by first | exact sg_set_w _ _ | exact sg_set_b _ _ | exact sg_set_h _ (by omega) _ | exact cx_set_pc _ _ | exact cx_set_r _ (by omega) _ | rfl) ?_))
   | ((refine z_sti 6 rfl rfl ?_; refine o_store6 rfl tabOk rfl rfl rfl rfl rfl (by first | exact sg_w _ | exact sg_b _ | exact sg_h _ (by omega) | exact cx_pc _ | exact cx_r _ (by omega) | exact d_k _ _ _ | exact d_n _ _ _ | exact deB_at (by omega) | rfl) (by first | exact sg_set_w _ _ | exact sg_set_b _ _ | exact sg_set_h _ (by omega) _ | exact cx_set_pc _ _ | exact cx_set_r _ (by omega) _ | rfl) ?_))))
   | refine o_move rfl (by decide) ?_
   | refine o_assign rfl (by decide) ?_
   | refine o_nil rfl (by decide) ?_
   | refine o_extract rfl rfl (by decide) ?_
   | refine o_not rfl (by decide) ?_
   | refine o_field0 tabOk rfl rfl rfl rfl rfl (by decide) ?_
   | refine o_field tabOk rfl rfl rfl rfl rfl (by decide) ?_
   | refine o_conv tabOk rfl rfl rfl (by decide) ?_))
theorem ret_fn (s : Sg) : Pf Tryd.prog 11 [.agg s.cs.toArray] (.tuple #[.agg s.ret.cs.toArray, .agg (if s.b then s.c else Cx.zero).cs.toArray, .bool s.b]) := by
  intro w hw
  refine f_enter Tryd.func11 rfl Tryd.ntmps11 rfl hw ?_
  unfold Sg.ret
  rcases Bool.eq_false_or_eq_true s.b with h | h
  · rw [h, if_pos rfl, if_pos rfl]
    have e : (!s.b) = false := by rw [h]; rfl
    repeat' (first
     | ((refine s_sel 4 [2, 1, 0, 3] (by decide) ?_; refine c_keep2 (id := 5) mixed (by kernel_rfl) ?_))
     | (refine s_is ?_; first
     | (refine s_isret ?_; first
     | exact p_r3 rfl (res_c tabOk rfl rfl rfl 0 rfl (sg_len _)) (res_c tabOk rfl rfl rfl 1 rfl (cx_len _)) (res_t rfl) rfl)
     | (refine s_isw ?_; first
     | refine c_seq ?_
     | refine c_block ?_
     | refine c_region ?_
     | refine c_mixed mixed (by kernel_rfl) ?_
     | refine c_skip ?_
     | refine c_ret ?_
     | refine c_exit ?_
     | (refine s_iscond ?_; first
     | (refine c_true rfl (by first | with_reducible rfl | with_reducible assumption | ((with_reducible refine decide_eq_true ?_); first | with_reducible rfl | with_reducible assumption | omega)) ?_)
     | (refine c_false rfl (by first | with_reducible rfl | with_reducible assumption | ((with_reducible refine decide_eq_false ?_); first | with_reducible assumption | omega)) ?_)
     | (refine c_true rfl (by first | (simp only [Bool.not_eq_true', decide_eq_false_iff_not]; omega) | (with_reducible assumption) | (rw [decide_eq_false] <;> (first | omega | with_reducible rfl)) | (rw [decide_eq_true] <;> (first | omega | with_reducible rfl)) | (simp; done) | (simp; omega)) ?_)
     | (refine c_false rfl (by first | (simp only [Bool.not_eq_false', decide_eq_true_eq]; omega) | (with_reducible assumption) | (rw [decide_eq_false] <;> (first | omega | with_reducible rfl)) | (rw [decide_eq_true] <;> (first | omega | with_reducible rfl)) | (simp; done) | (simp; omega)) ?_)
     | refine c_cond rfl (fun hc => ?_) (fun hc => ?_)
     | refine c_condb rfl (fun hc => ?_) (fun hc => ?_)))
     | refine x_then ?_
     | refine x_then_ret ?_
     | refine x_then_exit ?_
     | refine x_block _ ?_
     | refine x_block_ret _ ?_
     | refine x_block_exit _ ?_
     | refine x_block_past (by decide) ?_
     | refine z_tailm ?_)
     | (refine z_isnil ?_; first
     | refine z_keep1 ?_
     | refine z_keep2 ?_
     | refine z_list ?_
     | refine z_mixed ?_
     | refine z_mono0 ?_
     | refine z_mono1 (by decide) fun g => ?_
     | refine z_mono2 (by decide) (by decide) fun g g' => ?_
     | refine z_mixedx ?_
     | refine z_quiet ?_)
     | (refine z_isop ?_; first
     | refine o_boxa rfl rfl (by decide) fun g => ?_
     | refine o_alloca (e := 30) (vs := Sg.zero.cs) rfl (by kernel_rfl) (by decide) fun g => ?_
     | refine o_alloca (e := 26) (vs := Cx.zero.cs) rfl (by kernel_rfl) (by decide) fun g => ?_
     | refine o_alloca (e := 40) (vs := dCs 0 0 Cx.zero) rfl (by kernel_rfl) (by decide) fun g => ?_
     | refine o_build (v := .agg Cx.zero.cs.toArray) rfl (fun _ => by kernel_rfl) (by decide) ?_
     | (refine z_isload ?_; first
     | refine o_loadp tabOk rfl rfl rfl 0 rfl (cx_len _) (sg_c _) (by decide) ?_
     | refine o_loadp tabOk rfl rfl rfl 1 rfl (cx_len _) (sg_c _) (by decide) ?_
     | refine o_loadp tabOk rfl rfl rfl 2 rfl (cx_len _) (sg_c _) (by decide) ?_
     | refine o_loadp tabOk rfl rfl rfl 3 rfl (cx_len _) (sg_c _) (by decide) ?_
     | (refine z_ld1 tabOk rfl rfl ?_; first
     | refine o_loadm tabOk rfl rfl rfl (by repeat' (first | exact List.mem_cons_self | apply List.mem_cons_of_mem)) (by first | exact sg_w _ | exact sg_b _ | exact sg_h _ (by omega) | exact cx_pc _ | exact cx_r _ (by omega) | exact d_k _ _ _ | exact d_n _ _ _ | exact deB_at (by omega) | rfl) (by decide) ?_
     | refine o_loads tabOk (by first | assumption | exact Rds.cons _ (by assumption) | exact Rds.cons _ (Rds.cons _ (by assumption)) | exact own_rds 0 rfl | exact own_rds 1 rfl | exact own_rds 2 rfl) rfl rfl rfl (by first | exact sg_w _ | exact sg_b _ | exact sg_h _ (by omega) | exact cx_pc _ | exact cx_r _ (by omega) | exact d_k _ _ _ | exact d_n _ _ _ | exact deB_at (by omega) | rfl) (by decide) ?_)
     | (refine z_ldw tabOk rfl rfl ?_; first
     | refine o_loadwm tabOk rfl rfl rfl (by repeat' (first | exact List.mem_cons_self | apply List.mem_cons_of_mem)) (by first | exact sg_len _ | exact cx_len _ | exact d_len _ _ _ | (simp only [sg_len, cx_len, d_len]) | rfl) (by decide) ?_))
     | (refine z_isstore ?_; first
     | (refine o_storew_at rfl 0 tabOk rfl rfl rfl rfl (cx_len _) (cx_one _) (by rw [sg_len, cx_len]; decide) (sg_set_c _ _) ?_)
     | (refine o_storew_at rfl 1 tabOk rfl rfl rfl rfl (cx_len _) (cx_one _) (by rw [sg_len, cx_len]; decide) (sg_set_c _ _) ?_)
     | (refine o_storew_at rfl 2 tabOk rfl rfl rfl rfl (cx_len _) (cx_one _) (by rw [sg_len, cx_len]; decide) (sg_set_c _ _) ?_)
     | (refine o_storew_at rfl 3 tabOk rfl rfl rfl rfl (cx_len _) (cx_one _) (by rw [sg_len, cx_len]; decide) (sg_set_c _ _) ?_)
     | refine o_storebk 0 tabOk rfl rfl rfl rfl (by first | exact sg_len _ | exact cx_len _ | exact d_len _ _ _ | (simp only [sg_len, cx_len, d_len]) | rfl) (by first | exact sg_one _ | exact cx_one _ | exact d_one _ _ _ | rfl) (by first | exact sg_len _ | exact cx_len _ | exact d_len _ _ _ | (simp only [sg_len, cx_len, d_len]) | rfl) ?_
     | refine o_storebk 1 tabOk rfl rfl rfl rfl (by first | exact sg_len _ | exact cx_len _ | exact d_len _ _ _ | (simp only [sg_len, cx_len, d_len]) | rfl) (by first | exact sg_one _ | exact cx_one _ | exact d_one _ _ _ | rfl) (by first | exact sg_len _ | exact cx_len _ | exact d_len _ _ _ | (simp only [sg_len, cx_len, d_len]) | rfl) ?_
     | refine o_storek 0 tabOk rfl rfl rfl rfl rfl rfl (by first | exact sg_w _ | exact sg_b _ | exact sg_h _ (by omega) | exact cx_pc _ | exact cx_r _ (by omega) | exact d_k _ _ _ | exact d_n _ _ _ | exact deB_at (by omega) | rfl) (by first | exact sg_set_w _ _ | exact sg_set_b _ _ | exact sg_set_h _ (by omega) _ | exact cx_set_pc _ _ | exact cx_set_r _ (by omega) _ | rfl) ?_
     | (refine o_storewk 0 tabOk rfl rfl rfl rfl (cx_len _) (cx_one _) (by rw [sg_len, cx_len]; decide) (sg_set_c _ _) ?_)
     | (refine z_stw rfl ?_; first
     | ((refine z_sti 0 rfl rfl ?_; refine o_storeb0 rfl tabOk rfl rfl rfl (by first | exact sg_len _ | exact cx_len _ | exact d_len _ _ _ | (simp only [sg_len, cx_len, d_len]) | rfl) (by first | exact sg_one _ | exact cx_one _ | exact d_one _ _ _ | rfl) (by first | exact sg_len _ | exact cx_len _ | exact d_len _ _ _ | (simp only [sg_len, cx_len, d_len]) | rfl) ?_))
     | ((refine z_sti 1 rfl rfl ?_; refine o_storeb1 rfl tabOk rfl rfl rfl (by first | exact sg_len _ | exact cx_len _ | exact d_len _ _ _ | (simp only [sg_len, cx_len, d_len]) | rfl) (by first | exact sg_one _ | exact cx_one _ | exact d_one _ _ _ | rfl) (by first | exact sg_len _ | exact cx_len _ | exact d_len _ _ _ | (simp only [sg_len, cx_len, d_len]) | rfl) ?_))
     | ((refine z_sti 2 rfl rfl ?_; refine o_storeb2 rfl tabOk rfl rfl rfl (by first | exact sg_len _ | exact cx_len _ | exact d_len _ _ _ | (simp only [sg_len, cx_len, d_len]) | rfl) (by first | exact sg_one _ | exact cx_one _ | exact d_one _ _ _ | rfl) (by first | exact sg_len _ | exact cx_len _ | exact d_len _ _ _ | (simp only [sg_len, cx_len, d_len]) | rfl) ?_))
     | ((refine z_sti 3 rfl rfl ?_; refine o_storeb3 rfl tabOk rfl rfl rfl (by first | exact sg_len _ | exact cx_len _ | exact d_len _ _ _ | (simp only [sg_len, cx_len, d_len]) | rfl) (by first | exact sg_one _ | exact cx_one _ | exact d_one _ _ _ | rfl) (by first | exact sg_len _ | exact cx_len _ | exact d_len _ _ _ | (simp only [sg_len, cx_len, d_len]) | rfl) ?_))
     | ((refine z_sti 4 rfl rfl ?_; refine o_storeb4 rfl tabOk rfl rfl rfl (by first | exact sg_len _ | exact cx_len _ | exact d_len _ _ _ | (simp only [sg_len, cx_len, d_len]) | rfl) (by first | exact sg_one _ | exact cx_one _ | exact d_one _ _ _ | rfl) (by first | exact sg_len _ | exact cx_len _ | exact d_len _ _ _ | (simp only [sg_len, cx_len, d_len]) | rfl) ?_))
     | ((refine z_sti 5 rfl rfl ?_; refine o_storeb5 rfl tabOk rfl rfl rfl (by first | exact sg_len _ | exact cx_len _ | exact d_len _ _ _ | (simp only [sg_len, cx_len, d_len]) | rfl) (by first | exact sg_one _ | exact cx_one _ | exact d_one _ _ _ | rfl) (by first | exact sg_len _ | exact cx_len _ | exact d_len _ _ _ | (simp only [sg_len, cx_len, d_len]) | rfl) ?_))
     | ((refine z_sti 6 rfl rfl ?_; refine o_storeb6 rfl tabOk rfl rfl rfl (by first | exact sg_len _ | exact cx_len _ | exact d_len _ _ _ | (simp only [sg_len, cx_len, d_len]) | rfl) (by first | exact sg_one _ | exact cx_one _ | exact d_one _ _ _ | rfl) (by first | exact sg_len _ | exact cx_len _ | exact d_len _ _ _ | (simp only [sg_len, cx_len, d_len]) | rfl) ?_)))
     | (refine z_st1 rfl rfl ?_; first
     | refine o_store rfl tabOk rfl rfl rfl rfl rfl (by first | exact sg_w _ | exact sg_b _ | exact sg_h _ (by omega) | exact cx_pc _ | exact cx_r _ (by omega) | exact d_k _ _ _ | exact d_n _ _ _ | exact deB_at (by omega) | rfl) (by first | exact sg_set_w _ _ | exact sg_set_b _ _ | exact sg_set_h _ (by omega) _ | exact cx_set_pc _ _ | exact cx_set_r _ (by omega) _ | rfl) ?_
     | ((refine z_sti 1 rfl rfl ?_; refine o_store1 rfl tabOk rfl rfl rfl rfl rfl (by first | exact sg_w _ | exact sg_b _ | exact sg_h _ (by omega) | exact cx_pc _ | exact cx_r _ (by omega) | exact d_k _ _ _ | exact d_n _ _ _ | exact deB_at (by omega) | rfl) (by first | exact sg_set_w _ _ | exact sg_set_b _ _ | exact sg_set_h _ (by omega) _ | exact cx_set_pc _ _ | exact cx_set_r _ (by omega) _ | rfl) ?_))
     | ((refine z_sti 2 rfl rfl ?_; refine o_store2 rfl tabOk rfl rfl rfl rfl rfl (by first | exact sg_w _ | exact sg_b _ | exact sg_h _ (by omega) | exact cx_pc _ | exact cx_r _ (by omega) | exact d_k _ _ _ | exact d_n _ _ _ | exact deB_at (by omega) | rfl) (by first | exact sg_set_w _ _ | exact sg_set_b _ _ | exact sg_set_h _ (by omega) _ | exact cx_set_pc _ _ | exact cx_set_r _ (by omega) _ | rfl) ?_))
     | ((refine z_sti 3 rfl rfl ?_; refine o_store3 rfl tabOk rfl rfl rfl rfl rfl (by first | exact sg_w _ | exact sg_b _ | exact sg_h _ (by omega) | exact cx_pc _ | exact cx_r _ (by omega) | exact d_k _ _ _ | exact d_n _ _ _ | exact deB_at (by omega) | rfl) (by first | exact sg_set_w _ _ | exact sg_set_b _ _ | exact sg_set_h _ (by omega) _ | exact cx_set_pc _ _ | exact cx_set_r _ (by omega) _ | rfl) ?_))
     | ((refine z_sti 4 rfl rfl ?_; refine o_store4 rfl tabOk rfl rfl rfl rfl rfl (by first | exact sg_w _ | exact sg_b _ | exact sg_h _ (by omega) | exact cx_pc _ | exact cx_r _ (by omega) | exact d_k _ _ _ | exact d_n _ _ _ | exact deB_at (by omega) | rfl) (by first | exact sg_set_w _ _ | exact sg_set_b _ _ | exact sg_set_h _ (by omega) _ | exact cx_set_pc _ _ | exact cx_set_r _ (by omega) _ | rfl) ?_))
     | ((refine z_sti 5 rfl rfl ?_; refine o_store5 rfl tabOk rfl rfl rfl rfl rfl (by first | exact sg_w _ | exact sg_b _ | exact sg_h _ (by omega) | exact cx_pc _ | exact cx_r _ (by omega) | exact d_k _ _ _ | exact d_n _ _ _ | exact deB_at (by omega) | rfl) (by first | exact sg_set_w _ _ | exact sg_set_b _ _ | exact sg_set_h _ (by omega) _ | exact cx_set_pc _ _ | exact cx_set_r _ (by omega) _ | rfl) ?_))
     | ((refine z_sti 6 rfl rfl ?_; refine o_store6 rfl tabOk rfl rfl rfl rfl rfl (by first | exact sg_w _ | exact sg_b _ | exact sg_h _ (by omega) | exact cx_pc _ | exact cx_r _ (by omega) | exact d_k _ _ _ | exact d_n _ _ _ | exact deB_at (by omega) | rfl) (by first | exact sg_set_w _ _ | exact sg_set_b _ _ | exact sg_set_h _ (by omega) _ | exact cx_set_pc _ _ | exact cx_set_r _ (by omega) _ | rfl) ?_))))
     | refine o_move rfl (by decide) ?_
     | refine o_assign rfl (by decide) ?_
     | refine o_nil rfl (by decide) ?_
     | refine o_extract rfl rfl (by decide) ?_
     | refine o_not rfl (by decide) ?_
     | refine o_field0 tabOk rfl rfl rfl rfl rfl (by decide) ?_
     | refine o_field tabOk rfl rfl rfl rfl rfl (by decide) ?_
     | refine o_conv tabOk rfl rfl rfl (by decide) ?_))
  · rw [h, if_neg (by decide), if_neg (by decide)]
    have e : (!s.b) = true := by rw [h]; rfl
    repeat' (first
     | (refine s_is ?_; first
     | (refine s_isret ?_; first
     | exact p_r3 rfl (res_c tabOk rfl rfl rfl 1 rfl (sg_len _)) (res_c tabOk rfl rfl rfl 0 rfl (cx_len _)) (res_t rfl) rfl)
     | (refine s_isw ?_; first
     | refine c_seq ?_
     | refine c_block ?_
     | refine c_region ?_
     | refine c_mixed mixed (by kernel_rfl) ?_
     | refine c_skip ?_
     | refine c_ret ?_
     | refine c_exit ?_
     | (refine s_iscond ?_; first
     | (refine c_true rfl (by first | with_reducible rfl | with_reducible assumption | ((with_reducible refine decide_eq_true ?_); first | with_reducible rfl | with_reducible assumption | omega)) ?_)
     | (refine c_false rfl (by first | with_reducible rfl | with_reducible assumption | ((with_reducible refine decide_eq_false ?_); first | with_reducible assumption | omega)) ?_)
     | (refine c_true rfl (by first | (simp only [Bool.not_eq_true', decide_eq_false_iff_not]; omega) | (with_reducible assumption) | (rw [decide_eq_false] <;> (first | omega | with_reducible rfl)) | (rw [decide_eq_true] <;> (first | omega | with_reducible rfl)) | (simp; done) | (simp; omega)) ?_)
     | (refine c_false rfl (by first | (simp only [Bool.not_eq_false', decide_eq_true_eq]; omega) | (with_reducible assumption) | (rw [decide_eq_false] <;> (first | omega | with_reducible rfl)) | (rw [decide_eq_true] <;> (first | omega | with_reducible rfl)) | (simp; done) | (simp; omega)) ?_)
     | refine c_cond rfl (fun hc => ?_) (fun hc => ?_)
     | refine c_condb rfl (fun hc => ?_) (fun hc => ?_)))
     | refine x_then ?_
     | refine x_then_ret ?_
     | refine x_then_exit ?_
     | refine x_block _ ?_
     | refine x_block_ret _ ?_
     | refine x_block_exit _ ?_
     | refine x_block_past (by decide) ?_
     | refine z_tailm ?_)
     | (refine z_isnil ?_; first
     | refine z_keep1 ?_
     | refine z_keep2 ?_
     | refine z_list ?_
     | refine z_mixed ?_
     | refine z_mono0 ?_
     | refine z_mono1 (by decide) fun g => ?_
     | refine z_mono2 (by decide) (by decide) fun g g' => ?_
     | refine z_mixedx ?_
     | refine z_quiet ?_)
     | (refine z_isop ?_; first
     | refine o_boxa rfl rfl (by decide) fun g => ?_
     | refine o_alloca (e := 30) (vs := Sg.zero.cs) rfl (by kernel_rfl) (by decide) fun g => ?_
     | refine o_alloca (e := 26) (vs := Cx.zero.cs) rfl (by kernel_rfl) (by decide) fun g => ?_
     | refine o_alloca (e := 40) (vs := dCs 0 0 Cx.zero) rfl (by kernel_rfl) (by decide) fun g => ?_
     | refine o_build (v := .agg Cx.zero.cs.toArray) rfl (fun _ => by kernel_rfl) (by decide) ?_
     | (refine z_isload ?_; first
     | refine o_loadp tabOk rfl rfl rfl 0 rfl (cx_len _) (sg_c _) (by decide) ?_
     | refine o_loadp tabOk rfl rfl rfl 1 rfl (cx_len _) (sg_c _) (by decide) ?_
     | refine o_loadp tabOk rfl rfl rfl 2 rfl (cx_len _) (sg_c _) (by decide) ?_
     | refine o_loadp tabOk rfl rfl rfl 3 rfl (cx_len _) (sg_c _) (by decide) ?_
     | (refine z_ld1 tabOk rfl rfl ?_; first
     | refine o_loadm tabOk rfl rfl rfl (by repeat' (first | exact List.mem_cons_self | apply List.mem_cons_of_mem)) (by first | exact sg_w _ | exact sg_b _ | exact sg_h _ (by omega) | exact cx_pc _ | exact cx_r _ (by omega) | exact d_k _ _ _ | exact d_n _ _ _ | exact deB_at (by omega) | rfl) (by decide) ?_
     | refine o_loads tabOk (by first | assumption | exact Rds.cons _ (by assumption) | exact Rds.cons _ (Rds.cons _ (by assumption)) | exact own_rds 0 rfl | exact own_rds 1 rfl | exact own_rds 2 rfl) rfl rfl rfl (by first | exact sg_w _ | exact sg_b _ | exact sg_h _ (by omega) | exact cx_pc _ | exact cx_r _ (by omega) | exact d_k _ _ _ | exact d_n _ _ _ | exact deB_at (by omega) | rfl) (by decide) ?_)
     | (refine z_ldw tabOk rfl rfl ?_; first
     | refine o_loadwm tabOk rfl rfl rfl (by repeat' (first | exact List.mem_cons_self | apply List.mem_cons_of_mem)) (by first | exact sg_len _ | exact cx_len _ | exact d_len _ _ _ | (simp only [sg_len, cx_len, d_len]) | rfl) (by decide) ?_))
     | (refine z_isstore ?_; first
     | (refine o_storew_at rfl 0 tabOk rfl rfl rfl rfl (cx_len _) (cx_one _) (by rw [sg_len, cx_len]; decide) (sg_set_c _ _) ?_)
     | (refine o_storew_at rfl 1 tabOk rfl rfl rfl rfl (cx_len _) (cx_one _) (by rw [sg_len, cx_len]; decide) (sg_set_c _ _) ?_)
     | (refine o_storew_at rfl 2 tabOk rfl rfl rfl rfl (cx_len _) (cx_one _) (by rw [sg_len, cx_len]; decide) (sg_set_c _ _) ?_)
     | (refine o_storew_at rfl 3 tabOk rfl rfl rfl rfl (cx_len _) (cx_one _) (by rw [sg_len, cx_len]; decide) (sg_set_c _ _) ?_)
     | refine o_storebk 0 tabOk rfl rfl rfl rfl (by first | exact sg_len _ | exact cx_len _ | exact d_len _ _ _ | (simp only [sg_len, cx_len, d_len]) | rfl) (by first | exact sg_one _ | exact cx_one _ | exact d_one _ _ _ | rfl) (by first | exact sg_len _ | exact cx_len _ | exact d_len _ _ _ | (simp only [sg_len, cx_len, d_len]) | rfl) ?_
     | refine o_storebk 1 tabOk rfl rfl rfl rfl (by first | exact sg_len _ | exact cx_len _ | exact d_len _ _ _ | (simp only [sg_len, cx_len, d_len]) | rfl) (by first | exact sg_one _ | exact cx_one _ | exact d_one _ _ _ | rfl) (by first | exact sg_len _ | exact cx_len _ | exact d_len _ _ _ | (simp only [sg_len, cx_len, d_len]) | rfl) ?_
     | refine o_storek 0 tabOk rfl rfl rfl rfl rfl rfl (by first | exact sg_w _ | exact sg_b _ | exact sg_h _ (by omega) | exact cx_pc _ | exact cx_r _ (by omega) | exact d_k _ _ _ | exact d_n _ _ _ | exact deB_at (by omega) | rfl) (by first | exact sg_set_w _ _ | exact sg_set_b _ _ | exact sg_set_h _ (by omega) _ | exact cx_set_pc _ _ | exact cx_set_r _ (by omega) _ | rfl) ?_
     | (refine o_storewk 0 tabOk rfl rfl rfl rfl (cx_len _) (cx_one _) (by rw [sg_len, cx_len]; decide) (sg_set_c _ _) ?_)
     | (refine z_stw rfl ?_; first
     | ((refine z_sti 0 rfl rfl ?_; refine o_storeb0 rfl tabOk rfl rfl rfl (by first | exact sg_len _ | exact cx_len _ | exact d_len _ _ _ | (simp only [sg_len, cx_len, d_len]) | rfl) (by first | exact sg_one _ | exact cx_one _ | exact d_one _ _ _ | rfl) (by first | exact sg_len _ | exact cx_len _ | exact d_len _ _ _ | (simp only [sg_len, cx_len, d_len]) | rfl) ?_))
     | ((refine z_sti 1 rfl rfl ?_; refine o_storeb1 rfl tabOk rfl rfl rfl (by first | exact sg_len _ | exact cx_len _ | exact d_len _ _ _ | (simp only [sg_len, cx_len, d_len]) | rfl) (by first | exact sg_one _ | exact cx_one _ | exact d_one _ _ _ | rfl) (by first | exact sg_len _ | exact cx_len _ | exact d_len _ _ _ | (simp only [sg_len, cx_len, d_len]) | rfl) ?_))
     | ((refine z_sti 2 rfl rfl ?_; refine o_storeb2 rfl tabOk rfl rfl rfl (by first | exact sg_len _ | exact cx_len _ | exact d_len _ _ _ | (simp only [sg_len, cx_len, d_len]) | rfl) (by first | exact sg_one _ | exact cx_one _ | exact d_one _ _ _ | rfl) (by first | exact sg_len _ | exact cx_len _ | exact d_len _ _ _ | (simp only [sg_len, cx_len, d_len]) | rfl) ?_))
     | ((refine z_sti 3 rfl rfl ?_; refine o_storeb3 rfl tabOk rfl rfl rfl (by first | exact sg_len _ | exact cx_len _ | exact d_len _ _ _ | (simp only [sg_len, cx_len, d_len]) | rfl) (by first | exact sg_one _ | exact cx_one _ | exact d_one _ _ _ | rfl) (by first | exact sg_len _ | exact cx_len _ | exact d_len _ _ _ | (simp only [sg_len, cx_len, d_len]) | rfl) ?_))
     | ((refine z_sti 4 rfl rfl ?_; refine o_storeb4 rfl tabOk rfl rfl rfl (by first | exact sg_len _ | exact cx_len _ | exact d_len _ _ _ | (simp only [sg_len, cx_len, d_len]) | rfl) (by first | exact sg_one _ | exact cx_one _ | exact d_one _ _ _ | rfl) (by first | exact sg_len _ | exact cx_len _ | exact d_len _ _ _ | (simp only [sg_len, cx_len, d_len]) | rfl) ?_))
     | ((refine z_sti 5 rfl rfl ?_; refine o_storeb5 rfl tabOk rfl rfl rfl (by first | exact sg_len _ | exact cx_len _ | exact d_len _ _ _ | (simp only [sg_len, cx_len, d_len]) | rfl) (by first | exact sg_one _ | exact cx_one _ | exact d_one _ _ _ | rfl) (by first | exact sg_len _ | exact cx_len _ | exact d_len _ _ _ | (simp only [sg_len, cx_len, d_len]) | rfl) ?_))
     | ((refine z_sti 6 rfl rfl ?_; refine o_storeb6 rfl tabOk rfl rfl rfl (by first | exact sg_len _ | exact cx_len _ | exact d_len _ _ _ | (simp only [sg_len, cx_len, d_len]) | rfl) (by first | exact sg_one _ | exact cx_one _ | exact d_one _ _ _ | rfl) (by first | exact sg_len _ | exact cx_len _ | exact d_len _ _ _ | (simp only [sg_len, cx_len, d_len]) | rfl) ?_)))
     | (refine z_st1 rfl rfl ?_; first
     | refine o_store rfl tabOk rfl rfl rfl rfl rfl (by first | exact sg_w _ | exact sg_b _ | exact sg_h _ (by omega) | exact cx_pc _ | exact cx_r _ (by omega) | exact d_k _ _ _ | exact d_n _ _ _ | exact deB_at (by omega) | rfl) (by first | exact sg_set_w _ _ | exact sg_set_b _ _ | exact sg_set_h _ (by omega) _ | exact cx_set_pc _ _ | exact cx_set_r _ (by omega) _ | rfl) ?_
     | ((refine z_sti 1 rfl rfl ?_; refine o_store1 rfl tabOk rfl rfl rfl rfl rfl (by first | exact sg_w _ | exact sg_b _ | exact sg_h _ (by omega) | exact cx_pc _ | exact cx_r _ (by omega) | exact d_k _ _ _ | exact d_n _ _ _ | exact deB_at (by omega) | rfl) (by first | exact sg_set_w _ _ | exact sg_set_b _ _ | exact sg_set_h _ (by omega) _ | exact cx_set_pc _ _ | exact cx_set_r _ (by omega) _ | rfl) ?_))
     | ((refine z_sti 2 rfl rfl ?_; refine o_store2 rfl tabOk rfl rfl rfl rfl rfl (by first | exact sg_w _ | exact sg_b _ | exact sg_h _ (by omega) | exact cx_pc _ | exact cx_r _ (by omega) | exact d_k _ _ _ | exact d_n _ _ _ | exact deB_at (by omega) | rfl) (by first | exact sg_set_w _ _ | exact sg_set_b _ _ | exact sg_set_h _ (by omega) _ | exact cx_set_pc _ _ | exact cx_set_r _ (by omega) _ | rfl) ?_))
     | ((refine z_sti 3 rfl rfl ?_; refine o_store3 rfl tabOk rfl rfl rfl rfl rfl (by first | exact sg_w _ | exact sg_b _ | exact sg_h _ (by omega) | exact cx_pc _ | exact cx_r _ (by omega) | exact d_k _ _ _ | exact d_n _ _ _ | exact deB_at (by omega) | rfl) (by first | exact sg_set_w _ _ | exact sg_set_b _ _ | exact sg_set_h _ (by omega) _ | exact cx_set_pc _ _ | exact cx_set_r _ (by omega) _ | rfl) ?_))
     | ((refine z_sti 4 rfl rfl ?_; refine o_store4 rfl tabOk rfl rfl rfl rfl rfl (by first | exact sg_w _ | exact sg_b _ | exact sg_h _ (by omega) | exact cx_pc _ | exact cx_r _ (by omega) | exact d_k _ _ _ | exact d_n _ _ _ | exact deB_at (by omega) | rfl) (by first | exact sg_set_w _ _ | exact sg_set_b _ _ | exact sg_set_h _ (by omega) _ | exact cx_set_pc _ _ | exact cx_set_r _ (by omega) _ | rfl) ?_))
     | ((refine z_sti 5 rfl rfl ?_; refine o_store5 rfl tabOk rfl rfl rfl rfl rfl (by first | exact sg_w _ | exact sg_b _ | exact sg_h _ (by omega) | exact cx_pc _ | exact cx_r _ (by omega) | exact d_k _ _ _ | exact d_n _ _ _ | exact deB_at (by omega) | rfl) (by first | exact sg_set_w _ _ | exact sg_set_b _ _ | exact sg_set_h _ (by omega) _ | exact cx_set_pc _ _ | exact cx_set_r _ (by omega) _ | rfl) ?_))
     | ((refine z_sti 6 rfl rfl ?_; refine o_store6 rfl tabOk rfl rfl rfl rfl rfl (by first | exact sg_w _ | exact sg_b _ | exact sg_h _ (by omega) | exact cx_pc _ | exact cx_r _ (by omega) | exact d_k _ _ _ | exact d_n _ _ _ | exact deB_at (by omega) | rfl) (by first | exact sg_set_w _ _ | exact sg_set_b _ _ | exact sg_set_h _ (by omega) _ | exact cx_set_pc _ _ | exact cx_set_r _ (by omega) _ | rfl) ?_))))
     | refine o_move rfl (by decide) ?_
     | refine o_assign rfl (by decide) ?_
     | refine o_nil rfl (by decide) ?_
     | refine o_extract rfl rfl (by decide) ?_
     | refine o_not rfl (by decide) ?_
     | refine o_field0 tabOk rfl rfl rfl rfl rfl (by decide) ?_
     | refine o_field tabOk rfl rfl rfl rfl rfl (by decide) ?_
     | refine o_conv tabOk rfl rfl rfl (by decide) ?_))
end Go.Proofs.YtjejnlfbonpfaaaDoor
