/-
One deed, done by both.
-/
import Derived.Test.YtjejnlfbonpfaaaDoorSig7
namespace Go.Proofs.YtjejnlfbonpfaaaDoor
set_option linter.unusedVariables false
set_option linter.unusedSimpArgs false
open Eng
/-- A deed. -/
structure De where
  k : Int
  s : Int
  a : Int
  c : Cx
def De.cs (d : De) : List Value := .int .i64 d.k :: .int .i64 d.s :: .int .u32 d.a :: d.c.cs
theorem de_len (d : De) : d.cs.length = 20 := by simp [De.cs, cx_len]
theorem de_k (d : De) : d.cs[0]? = some (.int .i64 d.k) := rfl
theorem de_s (d : De) : d.cs[1]? = some (.int .i64 d.s) := rfl
theorem de_a (d : De) : d.cs[2]? = some (.int .u32 d.a) := rfl
theorem de_c (d : De) : ∀ (j : Nat) u, d.c.cs[j]? = some u → d.cs[3 + j]? = some u := fun j u h => by
  rw [show 3 + j = j + 3 by omega]; exact h
theorem de_one (d : De) : d.cs.all (·.oneCell') = true := by
  simp only [De.cs, List.all_cons, cx_one, Bool.and_true]; rfl
theorem typed_arr (k : CK) (f : Nat → Value) (hf : ∀ i, Typed [k] [f i]) : ∀ n, Typed (List.replicate n k) (arr n f)
  | 0 => trivial
  | n + 1 => by
    rw [List.replicate_succ', show arr (n + 1) f = arr n f ++ [f n] by simp [arr, List.range_succ]]
    exact (typed_arr k f hf n).append (hf n)
def cxK : List CK := List.replicate 16 (.int .u32) ++ [.int .u32]
theorem cx_typed (c : Cx) : Typed cxK c.cs := by
  unfold Cx.cs cxK
  exact (typed_arr (.int .u32) (fun i => .int .u32 (c.r i)) (fun i => (⟨rfl, trivial⟩ : _ ∧ True)) 16).append (⟨rfl, trivial⟩ : _ ∧ True)
theorem d_typed (k n : Int) (c : Cx) : Typed (.int .i64 :: .int .i64 :: cxK) (dCs k n c) := ⟨rfl, rfl, cx_typed c⟩
theorem cmp26 : Cmp Tryd.prog 26 cxK := ⟨by kernel_rfl, .inr ⟨_, rfl⟩, by kernel_rfl⟩
theorem cmp40 : Cmp Tryd.prog 40 (.int .i64 :: .int .i64 :: cxK) := ⟨by kernel_rfl, .inr ⟨_, rfl⟩, by kernel_rfl⟩
theorem cx_same (c : Cx) : eqB c.cs c.cs = true := (eqB_iff (cx_typed c) (cx_typed c)).2 rfl
theorem d_same (k n : Int) (c : Cx) : eqB (dCs k n c) (dCs k n c) = true := (eqB_iff (d_typed k n c) (d_typed k n c)).2 rfl
attribute [local irreducible] Eng.Hold Eng.Z Eng.S Eng.cells Eng.old Eng.own Sg.cs Cx.cs hsCs deB deT tzi dCs tz Sg.waits Rf.cs boCs De.cs Sg.raise Rf.raise Sg.next Sg.ret cxK Eng.eqB
theorem rf_gs (r : Rf) : ∀ (j : Nat) u, (boCs r.g)[j]? = some u → r.cs[0 + j]? = some u := fun j u h => by
  rw [Nat.zero_add]
  have hj : j < 9 := by
    have := (List.getElem?_eq_some_iff.1 h).1
    rwa [bo_len] at this
  rw [rf_g r hj, ← h]
  have : (boCs r.g)[j]? = some (.bool (r.g j)) := by unfold boCs; exact arr_get hj
  rw [this]
theorem r_fill (r : Rf) : Filled (fun i => [(0, 9), (9, 9), (18, 1), (19, 17)][i]?) [(0, .agg (boCs r.g).toArray)] Rf.zero.cs ({ Rf.zero with g := r.g } : Rf).cs := by
  refine ⟨0, 9, rfl, by simp [Value.cells, bo_len], by rw [rf_len]; decide, ?_⟩
  show _ = _
  have := rf_set_gs Rf.zero r.g
  rw [bo_len] at this
  simpa [Value.cells] using this
abbrev DoesDeed (s : Sg) (r : Rf) (b : Nat) (d : De) (fr : List Chunk) : Prop := ∃ x : Sg × Rf, Re x.1 x.2 ∧
  Does Tryd.prog 6 [.agg s.cs.toArray, .pointer (some ⟨b, 0, none⟩), .agg d.cs.toArray] (cells b 34 r.cs :: fr) (fun _ : Unit => True) (fun _ => .tuple #[.agg x.1.cs.toArray, .bool true]) (fun _ => cells b 34 x.2.cs :: fr)
set_option maxHeartbeats 8000000 in
theorem does_raise {s : Sg} {r : Rf} (h : Re s r) (b : Nat) (d : De) (fr : List Chunk) (hk : 0 ≤ d.k ∧ d.k ≤ 2) : DoesDeed s r b d fr := by
  refine ⟨(s.raise d.s, r.raise d.s), (re_raise h _), ?_⟩
  intro w hw
  refine f_enter Tryd.func6 rfl Tryd.ntmps6 rfl hw ?_
  repeat' (first
   | ((refine s_sel 5 [4, 1, 0, 2, 3] (by decide) ?_; refine c_keep2 (id := 6) mixed (by kernel_rfl) ?_))
   | (refine s_is ?_; first
   | (refine s_isret ?_; first
   | (exact f_r2 rfl (res_c tabOk rfl rfl rfl 1 rfl (sg_len _)) (res_t (by show some (Value.bool _) = some (Value.bool true); simp)) () trivial rfl (fun w h => ((h.sel 5 [0, 1, 2, 3, 4] (by decide)).mask [true, false, false, false, false]))))
   | (refine s_isw ?_; first
   | refine c_seq ?_
   | refine c_block ?_
   | refine c_region ?_
   | refine c_mixed mixed (by kernel_rfl) ?_
   | refine c_skip ?_
   | refine c_ret ?_
   | refine c_exit ?_
   | (refine s_iscond ?_; first
   | (refine c_true rfl (by first | with_reducible rfl | with_reducible assumption | ((with_reducible refine decide_eq_true ?_); first | with_reducible rfl | with_reducible assumption | omega)) ?_)
   | (refine c_false rfl (by first | with_reducible rfl | with_reducible assumption | ((with_reducible refine decide_eq_false ?_); first | with_reducible assumption | omega)) ?_)
   | (refine c_true rfl (by first | (simp only [Bool.not_eq_true', decide_eq_false_iff_not]; omega) | (with_reducible assumption) | (rw [decide_eq_false] <;> (first | omega | with_reducible rfl)) | (rw [decide_eq_true] <;> (first | omega | with_reducible rfl)) | (simp; done) | (simp; omega)) ?_)
   | (refine c_false rfl (by first | (simp only [Bool.not_eq_false', decide_eq_true_eq]; omega) | (with_reducible assumption) | (rw [decide_eq_false] <;> (first | omega | with_reducible rfl)) | (rw [decide_eq_true] <;> (first | omega | with_reducible rfl)) | (simp; done) | (simp; omega)) ?_)
   | refine c_cond rfl (fun hc => ?_) (fun hc => ?_)
   | refine c_condb rfl (fun hc => ?_) (fun hc => ?_)))
   | refine x_then ?_
   | refine x_then_ret ?_
   | refine x_then_exit ?_
   | refine x_block _ ?_
   | refine x_block_ret _ ?_
   | refine x_block_exit _ ?_
   | refine x_block_past (by decide) ?_
   | refine z_tailm ?_)
   | (refine z_isg1 ?_; first
   | refine z_skipu (by decide) rfl rfl ?_
   | (refine z_want1 rfl rfl (by first | with_reducible rfl | with_reducible assumption | ((with_reducible refine decide_eq_true ?_); first | with_reducible rfl | with_reducible assumption | omega)) ?_)
   | (refine z_skip1 (by decide) rfl rfl (by first | with_reducible rfl | with_reducible assumption | ((with_reducible refine decide_eq_false ?_); first | with_reducible assumption | omega)) ?_)
   | (refine z_want1 rfl rfl (by first | (simp only [Bool.not_eq_true', decide_eq_false_iff_not]; omega) | (with_reducible assumption) | (rw [decide_eq_false] <;> (first | omega | with_reducible rfl)) | (rw [decide_eq_true] <;> (first | omega | with_reducible rfl)) | (simp; done) | (simp; omega)) ?_)
   | (refine z_skip1 (by decide) rfl rfl (by first | (simp only [Bool.not_eq_false', decide_eq_true_eq]; omega) | (with_reducible assumption) | (rw [decide_eq_false] <;> (first | omega | with_reducible rfl)) | (rw [decide_eq_true] <;> (first | omega | with_reducible rfl)) | (simp; done) | (simp; omega)) ?_)
   | refine z_guard1 (by decide) rfl rfl (fun hc => ?_) (fun hc => ?_)
   | refine z_guardb (by decide) rfl rfl (fun hc => ?_) (fun hc => ?_))
   | (refine z_isnil ?_; first
   | refine z_keep1 ?_
   | refine z_keep2 ?_
   | refine z_list ?_
   | refine z_mixed ?_
   | refine z_mono0 ?_
   | refine z_mono1 (by decide) fun g => ?_
   | refine z_mono2 (by decide) (by decide) fun g g' => ?_
   | refine z_mixedx ?_
   | refine z_quiet ?_)
   | (refine z_isop ?_; first
   | refine o_boxa rfl rfl (by decide) fun g => ?_
   | refine o_alloca (e := 30) (vs := Sg.zero.cs) rfl (by kernel_rfl) (by decide) fun g => ?_
   | refine o_alloca (e := 26) (vs := Cx.zero.cs) rfl (by kernel_rfl) (by decide) fun g => ?_
   | refine o_alloca (e := 40) (vs := dCs 0 0 Cx.zero) rfl (by kernel_rfl) (by decide) fun g => ?_
   | refine o_buildf (t := 40) (zs := dCs 0 0 Cx.zero) tabOk rfl rfl (by kernel_rfl) rfl (d_fill _ _ _) (by decide) ?_
   | (refine z_isbin ?_; first
   | refine o_eqa cmp40 rfl rfl (d_typed _ _ _) (d_typed _ _ _) (by decide) ?_
   | refine o_eqa cmp26 rfl rfl (cx_typed _) (cx_typed _) (by decide) ?_
   | (refine z_isb .eql ?_; first
   | refine o_eq rfl rfl (by decide) ?_
   | refine o_beq tabOk rfl rfl rfl (by decide) ?_
   | refine o_peq tabOk rfl rfl (by decide) ?_))
   | (refine z_isload ?_; first
   | refine o_loadp tabOk rfl rfl rfl 1 rfl (cx_len _) (de_c _) (by decide) ?_
   | refine o_loadp tabOk rfl rfl rfl 3 rfl (cx_len _) (de_c _) (by decide) ?_
   | (refine z_ld1 tabOk rfl rfl ?_; first
   | refine o_loadm tabOk rfl rfl rfl (by repeat' (first | exact List.mem_cons_self | apply List.mem_cons_of_mem)) (by first | exact de_k _ | exact de_s _ | exact de_a _ | exact d_k _ _ _ | exact d_n _ _ _ | rfl) (by decide) ?_
   | refine o_loads tabOk (by first | assumption | exact Rds.cons _ (by assumption) | exact Rds.cons _ (Rds.cons _ (by assumption)) | exact own_rds 0 rfl | exact own_rds 1 rfl | exact own_rds 2 rfl) rfl rfl rfl (by first | exact de_k _ | exact de_s _ | exact de_a _ | exact d_k _ _ _ | exact d_n _ _ _ | rfl) (by decide) ?_)
   | (refine z_ldw tabOk rfl rfl ?_; first
   | refine o_loadwm tabOk rfl rfl rfl (by repeat' (first | exact List.mem_cons_self | apply List.mem_cons_of_mem)) (by first | exact sg_len _ | exact cx_len _ | exact d_len _ _ _ | exact de_len _ | exact rf_len _ | (simp only [sg_len, cx_len, d_len, de_len, rf_len]) | rfl) (by decide) ?_))
   | (refine z_isstore ?_; first
   | refine o_storebk 0 tabOk rfl rfl rfl rfl (by first | exact sg_len _ | exact cx_len _ | exact d_len _ _ _ | exact de_len _ | exact rf_len _ | (simp only [sg_len, cx_len, d_len, de_len, rf_len]) | rfl) (by first | exact sg_one _ | exact cx_one _ | exact d_one _ _ _ | exact de_one _ | exact rf_one _ | rfl) (by first | exact sg_len _ | exact cx_len _ | exact d_len _ _ _ | exact de_len _ | exact rf_len _ | (simp only [sg_len, cx_len, d_len, de_len, rf_len]) | rfl) ?_
   | refine o_storebk 1 tabOk rfl rfl rfl rfl (by first | exact sg_len _ | exact cx_len _ | exact d_len _ _ _ | exact de_len _ | exact rf_len _ | (simp only [sg_len, cx_len, d_len, de_len, rf_len]) | rfl) (by first | exact sg_one _ | exact cx_one _ | exact d_one _ _ _ | exact de_one _ | exact rf_one _ | rfl) (by first | exact sg_len _ | exact cx_len _ | exact d_len _ _ _ | exact de_len _ | exact rf_len _ | (simp only [sg_len, cx_len, d_len, de_len, rf_len]) | rfl) ?_
   | (refine z_stw rfl ?_; first
   | ((refine z_sti 0 rfl rfl ?_; refine o_storeb0 rfl tabOk rfl rfl rfl (by first | exact sg_len _ | exact cx_len _ | exact d_len _ _ _ | exact de_len _ | exact rf_len _ | (simp only [sg_len, cx_len, d_len, de_len, rf_len]) | rfl) (by first | exact sg_one _ | exact cx_one _ | exact d_one _ _ _ | exact de_one _ | exact rf_one _ | rfl) (by first | exact sg_len _ | exact cx_len _ | exact d_len _ _ _ | exact de_len _ | exact rf_len _ | (simp only [sg_len, cx_len, d_len, de_len, rf_len]) | rfl) ?_))
   | ((refine z_sti 1 rfl rfl ?_; refine o_storeb1 rfl tabOk rfl rfl rfl (by first | exact sg_len _ | exact cx_len _ | exact d_len _ _ _ | exact de_len _ | exact rf_len _ | (simp only [sg_len, cx_len, d_len, de_len, rf_len]) | rfl) (by first | exact sg_one _ | exact cx_one _ | exact d_one _ _ _ | exact de_one _ | exact rf_one _ | rfl) (by first | exact sg_len _ | exact cx_len _ | exact d_len _ _ _ | exact de_len _ | exact rf_len _ | (simp only [sg_len, cx_len, d_len, de_len, rf_len]) | rfl) ?_))
   | ((refine z_sti 2 rfl rfl ?_; refine o_storeb2 rfl tabOk rfl rfl rfl (by first | exact sg_len _ | exact cx_len _ | exact d_len _ _ _ | exact de_len _ | exact rf_len _ | (simp only [sg_len, cx_len, d_len, de_len, rf_len]) | rfl) (by first | exact sg_one _ | exact cx_one _ | exact d_one _ _ _ | exact de_one _ | exact rf_one _ | rfl) (by first | exact sg_len _ | exact cx_len _ | exact d_len _ _ _ | exact de_len _ | exact rf_len _ | (simp only [sg_len, cx_len, d_len, de_len, rf_len]) | rfl) ?_))
   | ((refine z_sti 3 rfl rfl ?_; refine o_storeb3 rfl tabOk rfl rfl rfl (by first | exact sg_len _ | exact cx_len _ | exact d_len _ _ _ | exact de_len _ | exact rf_len _ | (simp only [sg_len, cx_len, d_len, de_len, rf_len]) | rfl) (by first | exact sg_one _ | exact cx_one _ | exact d_one _ _ _ | exact de_one _ | exact rf_one _ | rfl) (by first | exact sg_len _ | exact cx_len _ | exact d_len _ _ _ | exact de_len _ | exact rf_len _ | (simp only [sg_len, cx_len, d_len, de_len, rf_len]) | rfl) ?_))
   | ((refine z_sti 4 rfl rfl ?_; refine o_storeb4 rfl tabOk rfl rfl rfl (by first | exact sg_len _ | exact cx_len _ | exact d_len _ _ _ | exact de_len _ | exact rf_len _ | (simp only [sg_len, cx_len, d_len, de_len, rf_len]) | rfl) (by first | exact sg_one _ | exact cx_one _ | exact d_one _ _ _ | exact de_one _ | exact rf_one _ | rfl) (by first | exact sg_len _ | exact cx_len _ | exact d_len _ _ _ | exact de_len _ | exact rf_len _ | (simp only [sg_len, cx_len, d_len, de_len, rf_len]) | rfl) ?_))
   | ((refine z_sti 5 rfl rfl ?_; refine o_storeb5 rfl tabOk rfl rfl rfl (by first | exact sg_len _ | exact cx_len _ | exact d_len _ _ _ | exact de_len _ | exact rf_len _ | (simp only [sg_len, cx_len, d_len, de_len, rf_len]) | rfl) (by first | exact sg_one _ | exact cx_one _ | exact d_one _ _ _ | exact de_one _ | exact rf_one _ | rfl) (by first | exact sg_len _ | exact cx_len _ | exact d_len _ _ _ | exact de_len _ | exact rf_len _ | (simp only [sg_len, cx_len, d_len, de_len, rf_len]) | rfl) ?_))
   | ((refine z_sti 6 rfl rfl ?_; refine o_storeb6 rfl tabOk rfl rfl rfl (by first | exact sg_len _ | exact cx_len _ | exact d_len _ _ _ | exact de_len _ | exact rf_len _ | (simp only [sg_len, cx_len, d_len, de_len, rf_len]) | rfl) (by first | exact sg_one _ | exact cx_one _ | exact d_one _ _ _ | exact de_one _ | exact rf_one _ | rfl) (by first | exact sg_len _ | exact cx_len _ | exact d_len _ _ _ | exact de_len _ | exact rf_len _ | (simp only [sg_len, cx_len, d_len, de_len, rf_len]) | rfl) ?_)))
   | (refine z_st1 rfl rfl ?_; first
   | refine o_store rfl tabOk rfl rfl rfl rfl rfl (by first | exact de_k _ | exact de_s _ | exact de_a _ | exact d_k _ _ _ | exact d_n _ _ _ | rfl) (by first | rfl) ?_
   | ((refine z_sti 1 rfl rfl ?_; refine o_store1 rfl tabOk rfl rfl rfl rfl rfl (by first | exact de_k _ | exact de_s _ | exact de_a _ | exact d_k _ _ _ | exact d_n _ _ _ | rfl) (by first | rfl) ?_))
   | ((refine z_sti 2 rfl rfl ?_; refine o_store2 rfl tabOk rfl rfl rfl rfl rfl (by first | exact de_k _ | exact de_s _ | exact de_a _ | exact d_k _ _ _ | exact d_n _ _ _ | rfl) (by first | rfl) ?_))
   | ((refine z_sti 3 rfl rfl ?_; refine o_store3 rfl tabOk rfl rfl rfl rfl rfl (by first | exact de_k _ | exact de_s _ | exact de_a _ | exact d_k _ _ _ | exact d_n _ _ _ | rfl) (by first | rfl) ?_))
   | ((refine z_sti 4 rfl rfl ?_; refine o_store4 rfl tabOk rfl rfl rfl rfl rfl (by first | exact de_k _ | exact de_s _ | exact de_a _ | exact d_k _ _ _ | exact d_n _ _ _ | rfl) (by first | rfl) ?_))
   | ((refine z_sti 5 rfl rfl ?_; refine o_store5 rfl tabOk rfl rfl rfl rfl rfl (by first | exact de_k _ | exact de_s _ | exact de_a _ | exact d_k _ _ _ | exact d_n _ _ _ | rfl) (by first | rfl) ?_))
   | ((refine z_sti 6 rfl rfl ?_; refine o_store6 rfl tabOk rfl rfl rfl rfl rfl (by first | exact de_k _ | exact de_s _ | exact de_a _ | exact d_k _ _ _ | exact d_n _ _ _ | rfl) (by first | rfl) ?_))))
   | (refine z_iscall ?_; first
   | ((refine z_iscallf 14 ?_; refine o_callk Tryd.func14 rfl rfl rfl (rraise_c _ _ _) (by decide) ?_))
   | ((refine z_iscallf 9 ?_; refine o_fn rfl Tryd.func9 rfl rfl rfl (raise_fn _ _) (by decide) ?_))
   | ((refine z_iscallf 11 ?_; refine o_fn rfl Tryd.func11 rfl rfl rfl (ret_fn _) (by decide) ?_))
   | ((refine z_iscallf 18 ?_; refine o_fn rfl Tryd.func18 rfl rfl rfl (fork_fn _) (by decide) ?_))
   | ((refine z_iscallf 19 ?_; refine o_fn rfl Tryd.func19 rfl rfl rfl (exec_fn _) (by decide) ?_)))
   | (refine z_ispick ?_; first
   | (refine o_pick1 rfl (by first | with_reducible rfl | with_reducible assumption | ((with_reducible refine decide_eq_true ?_); first | with_reducible rfl | with_reducible assumption | omega)) rfl (by decide) ?_)
   | (refine o_pick0 rfl (by first | with_reducible rfl | with_reducible assumption | ((with_reducible refine decide_eq_false ?_); first | with_reducible assumption | omega)) rfl (by decide) ?_)
   | (refine o_pick1 rfl (by first | (simp only [Bool.not_eq_true', decide_eq_false_iff_not]; omega) | (with_reducible assumption) | (rw [decide_eq_false] <;> (first | omega | with_reducible rfl)) | (rw [decide_eq_true] <;> (first | omega | with_reducible rfl)) | (simp; done) | (simp; omega)) rfl (by decide) ?_)
   | (refine o_pick0 rfl (by first | (simp only [Bool.not_eq_false', decide_eq_true_eq]; omega) | (with_reducible assumption) | (rw [decide_eq_false] <;> (first | omega | with_reducible rfl)) | (rw [decide_eq_true] <;> (first | omega | with_reducible rfl)) | (simp; done) | (simp; omega)) rfl (by decide) ?_))
   | refine o_move rfl (by decide) ?_
   | refine o_assign rfl (by decide) ?_
   | refine o_nil rfl (by decide) ?_
   | refine o_extract rfl rfl (by decide) ?_
   | refine o_not rfl (by decide) ?_
   | refine o_field0 tabOk rfl rfl rfl rfl rfl (by decide) ?_
   | refine o_field tabOk rfl rfl rfl rfl rfl (by decide) ?_
   | refine o_conv tabOk rfl rfl rfl (by decide) ?_))
set_option maxHeartbeats 8000000 in
theorem does_set {s : Sg} {r : Rf} (h : Re s r) (b : Nat) (d : De) (fr : List Chunk) (hk : 3 ≤ d.k ∧ d.k ≤ 4) (ha : 0 ≤ d.a) : DoesDeed s r b d fr := by
  by_cases hs : 2 ≤ d.s ∧ d.s ≤ 8 ∧ d.a % 4 = 0
  · refine ⟨(({ s with h := upd s.h d.s.toNat d.a } : Sg), ({ r with h := upd r.h d.s.toNat d.a } : Rf)), (re_set h _ _), ?_⟩
    intro w hw
    refine f_enter Tryd.func6 rfl Tryd.ntmps6 rfl hw ?_
    have e : r.h d.s.toNat = s.h d.s.toNat := by rw [h.h]
    repeat' (first
     | (refine s_is ?_; first
     | (refine s_isret ?_; first
     | (exact f_r2 rfl (res_c tabOk rfl rfl rfl 2 rfl (sg_len _)) (res_t (by show some (Value.bool _) = some (Value.bool true); simp [e])) () trivial rfl (fun w h => ((h.sel 5 [0, 1, 2, 3, 4] (by decide)).mask [true, false, false, false, false]))))
     | (refine s_isw ?_; first
     | refine c_seq ?_
     | refine c_block ?_
     | refine c_region ?_
     | refine c_mixed mixed (by kernel_rfl) ?_
     | refine c_skip ?_
     | refine c_ret ?_
     | refine c_exit ?_
     | (refine s_iscond ?_; first
     | (refine c_true rfl (by first | with_reducible rfl | with_reducible assumption | ((with_reducible refine decide_eq_true ?_); first | with_reducible rfl | with_reducible assumption | omega)) ?_)
     | (refine c_false rfl (by first | with_reducible rfl | with_reducible assumption | ((with_reducible refine decide_eq_false ?_); first | with_reducible assumption | omega)) ?_)
     | (refine c_true rfl (by first | (simp only [Bool.not_eq_true', decide_eq_false_iff_not]; omega) | (with_reducible assumption) | (rw [decide_eq_false] <;> (first | omega | with_reducible rfl)) | (rw [decide_eq_true] <;> (first | omega | with_reducible rfl)) | (simp; done) | (simp; omega)) ?_)
     | (refine c_false rfl (by first | (simp only [Bool.not_eq_false', decide_eq_true_eq]; omega) | (with_reducible assumption) | (rw [decide_eq_false] <;> (first | omega | with_reducible rfl)) | (rw [decide_eq_true] <;> (first | omega | with_reducible rfl)) | (simp; done) | (simp; omega)) ?_)
     | refine c_cond rfl (fun hc => ?_) (fun hc => ?_)
     | refine c_condb rfl (fun hc => ?_) (fun hc => ?_)))
     | refine x_then ?_
     | refine x_then_ret ?_
     | refine x_then_exit ?_
     | refine x_block _ ?_
     | refine x_block_ret _ ?_
     | refine x_block_exit _ ?_
     | refine x_block_past (by decide) ?_
     | refine z_tailm ?_)
     | (refine z_isg1 ?_; first
     | refine z_skipu (by decide) rfl rfl ?_
     | (refine z_want1 rfl rfl (by first | with_reducible rfl | with_reducible assumption | ((with_reducible refine decide_eq_true ?_); first | with_reducible rfl | with_reducible assumption | omega)) ?_)
     | (refine z_skip1 (by decide) rfl rfl (by first | with_reducible rfl | with_reducible assumption | ((with_reducible refine decide_eq_false ?_); first | with_reducible assumption | omega)) ?_)
     | (refine z_want1 rfl rfl (by first | (simp only [Bool.not_eq_true', decide_eq_false_iff_not]; omega) | (with_reducible assumption) | (rw [decide_eq_false] <;> (first | omega | with_reducible rfl)) | (rw [decide_eq_true] <;> (first | omega | with_reducible rfl)) | (simp; done) | (simp; omega)) ?_)
     | (refine z_skip1 (by decide) rfl rfl (by first | (simp only [Bool.not_eq_false', decide_eq_true_eq]; omega) | (with_reducible assumption) | (rw [decide_eq_false] <;> (first | omega | with_reducible rfl)) | (rw [decide_eq_true] <;> (first | omega | with_reducible rfl)) | (simp; done) | (simp; omega)) ?_)
     | refine z_guard1 (by decide) rfl rfl (fun hc => ?_) (fun hc => ?_)
     | refine z_guardb (by decide) rfl rfl (fun hc => ?_) (fun hc => ?_))
     | (refine z_isnil ?_; first
     | refine z_keep1 ?_
     | refine z_keep2 ?_
     | refine z_list ?_
     | refine z_mixed ?_
     | refine z_mono0 ?_
     | refine z_mono1 (by decide) fun g => ?_
     | refine z_mono2 (by decide) (by decide) fun g g' => ?_
     | refine z_mixedx ?_
     | refine z_quiet ?_)
     | (refine z_isop ?_; first
     | refine o_boxa rfl rfl (by decide) fun g => ?_
     | refine o_alloca (e := 30) (vs := Sg.zero.cs) rfl (by kernel_rfl) (by decide) fun g => ?_
     | refine o_alloca (e := 26) (vs := Cx.zero.cs) rfl (by kernel_rfl) (by decide) fun g => ?_
     | refine o_alloca (e := 40) (vs := dCs 0 0 Cx.zero) rfl (by kernel_rfl) (by decide) fun g => ?_
     | refine o_buildf (t := 40) (zs := dCs 0 0 Cx.zero) tabOk rfl rfl (by kernel_rfl) rfl (d_fill _ _ _) (by decide) ?_
     | (refine z_isbin ?_; first
     | refine o_eqa cmp40 rfl rfl (d_typed _ _ _) (d_typed _ _ _) (by decide) ?_
     | refine o_eqa cmp26 rfl rfl (cx_typed _) (cx_typed _) (by decide) ?_
     | (refine z_isb .eql ?_; first
     | refine o_eq rfl rfl (by decide) ?_
     | refine o_beq tabOk rfl rfl rfl (by decide) ?_
     | refine o_peq tabOk rfl rfl (by decide) ?_))
     | (refine z_isload ?_; first
     | refine o_loadp tabOk rfl rfl rfl 1 rfl (cx_len _) (de_c _) (by decide) ?_
     | refine o_loadp tabOk rfl rfl rfl 3 rfl (cx_len _) (de_c _) (by decide) ?_
     | (refine z_ld1 tabOk rfl rfl ?_; first
     | refine o_loadm tabOk rfl rfl rfl (by repeat' (first | exact List.mem_cons_self | apply List.mem_cons_of_mem)) (by first | exact de_k _ | exact de_s _ | exact de_a _ | exact d_k _ _ _ | exact d_n _ _ _ | rfl) (by decide) ?_
     | refine o_loads tabOk (by first | assumption | exact Rds.cons _ (by assumption) | exact Rds.cons _ (Rds.cons _ (by assumption)) | exact own_rds 0 rfl | exact own_rds 1 rfl | exact own_rds 2 rfl) rfl rfl rfl (by first | exact de_k _ | exact de_s _ | exact de_a _ | exact d_k _ _ _ | exact d_n _ _ _ | rfl) (by decide) ?_)
     | (refine z_ldw tabOk rfl rfl ?_; first
     | refine o_loadwm tabOk rfl rfl rfl (by repeat' (first | exact List.mem_cons_self | apply List.mem_cons_of_mem)) (by first | exact sg_len _ | exact cx_len _ | exact d_len _ _ _ | exact de_len _ | exact rf_len _ | (simp only [sg_len, cx_len, d_len, de_len, rf_len]) | rfl) (by decide) ?_))
     | (refine z_isstore ?_; first
     | refine o_storebk 0 tabOk rfl rfl rfl rfl (by first | exact sg_len _ | exact cx_len _ | exact d_len _ _ _ | exact de_len _ | exact rf_len _ | (simp only [sg_len, cx_len, d_len, de_len, rf_len]) | rfl) (by first | exact sg_one _ | exact cx_one _ | exact d_one _ _ _ | exact de_one _ | exact rf_one _ | rfl) (by first | exact sg_len _ | exact cx_len _ | exact d_len _ _ _ | exact de_len _ | exact rf_len _ | (simp only [sg_len, cx_len, d_len, de_len, rf_len]) | rfl) ?_
     | refine o_storebk 1 tabOk rfl rfl rfl rfl (by first | exact sg_len _ | exact cx_len _ | exact d_len _ _ _ | exact de_len _ | exact rf_len _ | (simp only [sg_len, cx_len, d_len, de_len, rf_len]) | rfl) (by first | exact sg_one _ | exact cx_one _ | exact d_one _ _ _ | exact de_one _ | exact rf_one _ | rfl) (by first | exact sg_len _ | exact cx_len _ | exact d_len _ _ _ | exact de_len _ | exact rf_len _ | (simp only [sg_len, cx_len, d_len, de_len, rf_len]) | rfl) ?_
     | (refine z_stw rfl ?_; first
     | ((refine z_sti 0 rfl rfl ?_; refine o_storeb0 rfl tabOk rfl rfl rfl (by first | exact sg_len _ | exact cx_len _ | exact d_len _ _ _ | exact de_len _ | exact rf_len _ | (simp only [sg_len, cx_len, d_len, de_len, rf_len]) | rfl) (by first | exact sg_one _ | exact cx_one _ | exact d_one _ _ _ | exact de_one _ | exact rf_one _ | rfl) (by first | exact sg_len _ | exact cx_len _ | exact d_len _ _ _ | exact de_len _ | exact rf_len _ | (simp only [sg_len, cx_len, d_len, de_len, rf_len]) | rfl) ?_))
     | ((refine z_sti 1 rfl rfl ?_; refine o_storeb1 rfl tabOk rfl rfl rfl (by first | exact sg_len _ | exact cx_len _ | exact d_len _ _ _ | exact de_len _ | exact rf_len _ | (simp only [sg_len, cx_len, d_len, de_len, rf_len]) | rfl) (by first | exact sg_one _ | exact cx_one _ | exact d_one _ _ _ | exact de_one _ | exact rf_one _ | rfl) (by first | exact sg_len _ | exact cx_len _ | exact d_len _ _ _ | exact de_len _ | exact rf_len _ | (simp only [sg_len, cx_len, d_len, de_len, rf_len]) | rfl) ?_))
     | ((refine z_sti 2 rfl rfl ?_; refine o_storeb2 rfl tabOk rfl rfl rfl (by first | exact sg_len _ | exact cx_len _ | exact d_len _ _ _ | exact de_len _ | exact rf_len _ | (simp only [sg_len, cx_len, d_len, de_len, rf_len]) | rfl) (by first | exact sg_one _ | exact cx_one _ | exact d_one _ _ _ | exact de_one _ | exact rf_one _ | rfl) (by first | exact sg_len _ | exact cx_len _ | exact d_len _ _ _ | exact de_len _ | exact rf_len _ | (simp only [sg_len, cx_len, d_len, de_len, rf_len]) | rfl) ?_))
     | ((refine z_sti 3 rfl rfl ?_; refine o_storeb3 rfl tabOk rfl rfl rfl (by first | exact sg_len _ | exact cx_len _ | exact d_len _ _ _ | exact de_len _ | exact rf_len _ | (simp only [sg_len, cx_len, d_len, de_len, rf_len]) | rfl) (by first | exact sg_one _ | exact cx_one _ | exact d_one _ _ _ | exact de_one _ | exact rf_one _ | rfl) (by first | exact sg_len _ | exact cx_len _ | exact d_len _ _ _ | exact de_len _ | exact rf_len _ | (simp only [sg_len, cx_len, d_len, de_len, rf_len]) | rfl) ?_))
     | ((refine z_sti 4 rfl rfl ?_; refine o_storeb4 rfl tabOk rfl rfl rfl (by first | exact sg_len _ | exact cx_len _ | exact d_len _ _ _ | exact de_len _ | exact rf_len _ | (simp only [sg_len, cx_len, d_len, de_len, rf_len]) | rfl) (by first | exact sg_one _ | exact cx_one _ | exact d_one _ _ _ | exact de_one _ | exact rf_one _ | rfl) (by first | exact sg_len _ | exact cx_len _ | exact d_len _ _ _ | exact de_len _ | exact rf_len _ | (simp only [sg_len, cx_len, d_len, de_len, rf_len]) | rfl) ?_))
     | ((refine z_sti 5 rfl rfl ?_; refine o_storeb5 rfl tabOk rfl rfl rfl (by first | exact sg_len _ | exact cx_len _ | exact d_len _ _ _ | exact de_len _ | exact rf_len _ | (simp only [sg_len, cx_len, d_len, de_len, rf_len]) | rfl) (by first | exact sg_one _ | exact cx_one _ | exact d_one _ _ _ | exact de_one _ | exact rf_one _ | rfl) (by first | exact sg_len _ | exact cx_len _ | exact d_len _ _ _ | exact de_len _ | exact rf_len _ | (simp only [sg_len, cx_len, d_len, de_len, rf_len]) | rfl) ?_))
     | ((refine z_sti 6 rfl rfl ?_; refine o_storeb6 rfl tabOk rfl rfl rfl (by first | exact sg_len _ | exact cx_len _ | exact d_len _ _ _ | exact de_len _ | exact rf_len _ | (simp only [sg_len, cx_len, d_len, de_len, rf_len]) | rfl) (by first | exact sg_one _ | exact cx_one _ | exact d_one _ _ _ | exact de_one _ | exact rf_one _ | rfl) (by first | exact sg_len _ | exact cx_len _ | exact d_len _ _ _ | exact de_len _ | exact rf_len _ | (simp only [sg_len, cx_len, d_len, de_len, rf_len]) | rfl) ?_)))
     | (refine z_st1 rfl rfl ?_; first
     | refine o_store rfl tabOk rfl rfl rfl rfl rfl (by first | exact de_k _ | exact de_s _ | exact de_a _ | exact d_k _ _ _ | exact d_n _ _ _ | rfl) (by first | rfl) ?_
     | ((refine z_sti 1 rfl rfl ?_; refine o_store1 rfl tabOk rfl rfl rfl rfl rfl (by first | exact de_k _ | exact de_s _ | exact de_a _ | exact d_k _ _ _ | exact d_n _ _ _ | rfl) (by first | rfl) ?_))
     | ((refine z_sti 2 rfl rfl ?_; refine o_store2 rfl tabOk rfl rfl rfl rfl rfl (by first | exact de_k _ | exact de_s _ | exact de_a _ | exact d_k _ _ _ | exact d_n _ _ _ | rfl) (by first | rfl) ?_))
     | ((refine z_sti 3 rfl rfl ?_; refine o_store3 rfl tabOk rfl rfl rfl rfl rfl (by first | exact de_k _ | exact de_s _ | exact de_a _ | exact d_k _ _ _ | exact d_n _ _ _ | rfl) (by first | rfl) ?_))
     | ((refine z_sti 4 rfl rfl ?_; refine o_store4 rfl tabOk rfl rfl rfl rfl rfl (by first | exact de_k _ | exact de_s _ | exact de_a _ | exact d_k _ _ _ | exact d_n _ _ _ | rfl) (by first | rfl) ?_))
     | ((refine z_sti 5 rfl rfl ?_; refine o_store5 rfl tabOk rfl rfl rfl rfl rfl (by first | exact de_k _ | exact de_s _ | exact de_a _ | exact d_k _ _ _ | exact d_n _ _ _ | rfl) (by first | rfl) ?_))
     | ((refine z_sti 6 rfl rfl ?_; refine o_store6 rfl tabOk rfl rfl rfl rfl rfl (by first | exact de_k _ | exact de_s _ | exact de_a _ | exact d_k _ _ _ | exact d_n _ _ _ | rfl) (by first | rfl) ?_))))
     | (refine z_iscall ?_; first
     | ((refine z_iscallf 12 ?_; refine o_fn rfl Tryd.func12 rfl rfl rfl (set_yes _ _ _ ⟨hs.1, hs.2.1⟩ ha hs.2.2) (by decide) ?_))
     | ((refine z_iscallf 15 ?_; refine z_front rfl 4 rfl ?_; refine o_call Tryd.func15 rfl rfl rfl (rset_yes _ _ _ _ ⟨hs.1, hs.2.1⟩ ha hs.2.2) (List.Perm.refl _) (by decide) fun _ _ => ?_))
     | ((refine z_iscallf 9 ?_; refine o_fn rfl Tryd.func9 rfl rfl rfl (raise_fn _ _) (by decide) ?_))
     | ((refine z_iscallf 11 ?_; refine o_fn rfl Tryd.func11 rfl rfl rfl (ret_fn _) (by decide) ?_))
     | ((refine z_iscallf 18 ?_; refine o_fn rfl Tryd.func18 rfl rfl rfl (fork_fn _) (by decide) ?_))
     | ((refine z_iscallf 19 ?_; refine o_fn rfl Tryd.func19 rfl rfl rfl (exec_fn _) (by decide) ?_)))
     | (refine z_ispick ?_; first
     | (refine o_pick1 rfl (by first | with_reducible rfl | with_reducible assumption | ((with_reducible refine decide_eq_true ?_); first | with_reducible rfl | with_reducible assumption | omega)) rfl (by decide) ?_)
     | (refine o_pick0 rfl (by first | with_reducible rfl | with_reducible assumption | ((with_reducible refine decide_eq_false ?_); first | with_reducible assumption | omega)) rfl (by decide) ?_)
     | (refine o_pick1 rfl (by first | (simp only [Bool.not_eq_true', decide_eq_false_iff_not]; omega) | (with_reducible assumption) | (rw [decide_eq_false] <;> (first | omega | with_reducible rfl)) | (rw [decide_eq_true] <;> (first | omega | with_reducible rfl)) | (simp; done) | (simp; omega)) rfl (by decide) ?_)
     | (refine o_pick0 rfl (by first | (simp only [Bool.not_eq_false', decide_eq_true_eq]; omega) | (with_reducible assumption) | (rw [decide_eq_false] <;> (first | omega | with_reducible rfl)) | (rw [decide_eq_true] <;> (first | omega | with_reducible rfl)) | (simp; done) | (simp; omega)) rfl (by decide) ?_))
     | refine o_move rfl (by decide) ?_
     | refine o_assign rfl (by decide) ?_
     | refine o_nil rfl (by decide) ?_
     | refine o_extract rfl rfl (by decide) ?_
     | refine o_not rfl (by decide) ?_
     | refine o_field0 tabOk rfl rfl rfl rfl rfl (by decide) ?_
     | refine o_field tabOk rfl rfl rfl rfl rfl (by decide) ?_
     | refine o_conv tabOk rfl rfl rfl (by decide) ?_))
  · refine ⟨(s, r), h, ?_⟩
    intro w hw
    refine f_enter Tryd.func6 rfl Tryd.ntmps6 rfl hw ?_
    repeat' (first
     | (refine s_is ?_; first
     | (refine s_isret ?_; first
     | (exact f_r2 rfl (res_c tabOk rfl rfl rfl 2 rfl (sg_len _)) (res_t (by show some (Value.bool _) = some (Value.bool true); simp)) () trivial rfl (fun w h => ((h.sel 5 [0, 1, 2, 3, 4] (by decide)).mask [true, false, false, false, false]))))
     | (refine s_isw ?_; first
     | refine c_seq ?_
     | refine c_block ?_
     | refine c_region ?_
     | refine c_mixed mixed (by kernel_rfl) ?_
     | refine c_skip ?_
     | refine c_ret ?_
     | refine c_exit ?_
     | (refine s_iscond ?_; first
     | (refine c_true rfl (by first | with_reducible rfl | with_reducible assumption | ((with_reducible refine decide_eq_true ?_); first | with_reducible rfl | with_reducible assumption | omega)) ?_)
     | (refine c_false rfl (by first | with_reducible rfl | with_reducible assumption | ((with_reducible refine decide_eq_false ?_); first | with_reducible assumption | omega)) ?_)
     | (refine c_true rfl (by first | (simp only [Bool.not_eq_true', decide_eq_false_iff_not]; omega) | (with_reducible assumption) | (rw [decide_eq_false] <;> (first | omega | with_reducible rfl)) | (rw [decide_eq_true] <;> (first | omega | with_reducible rfl)) | (simp; done) | (simp; omega)) ?_)
     | (refine c_false rfl (by first | (simp only [Bool.not_eq_false', decide_eq_true_eq]; omega) | (with_reducible assumption) | (rw [decide_eq_false] <;> (first | omega | with_reducible rfl)) | (rw [decide_eq_true] <;> (first | omega | with_reducible rfl)) | (simp; done) | (simp; omega)) ?_)
     | refine c_cond rfl (fun hc => ?_) (fun hc => ?_)
     | refine c_condb rfl (fun hc => ?_) (fun hc => ?_)))
     | refine x_then ?_
     | refine x_then_ret ?_
     | refine x_then_exit ?_
     | refine x_block _ ?_
     | refine x_block_ret _ ?_
     | refine x_block_exit _ ?_
     | refine x_block_past (by decide) ?_
     | refine z_tailm ?_)
     | (refine z_isg1 ?_; first
     | refine z_skipu (by decide) rfl rfl ?_
     | (refine z_want1 rfl rfl (by first | with_reducible rfl | with_reducible assumption | ((with_reducible refine decide_eq_true ?_); first | with_reducible rfl | with_reducible assumption | omega)) ?_)
     | (refine z_skip1 (by decide) rfl rfl (by first | with_reducible rfl | with_reducible assumption | ((with_reducible refine decide_eq_false ?_); first | with_reducible assumption | omega)) ?_)
     | (refine z_want1 rfl rfl (by first | (simp only [Bool.not_eq_true', decide_eq_false_iff_not]; omega) | (with_reducible assumption) | (rw [decide_eq_false] <;> (first | omega | with_reducible rfl)) | (rw [decide_eq_true] <;> (first | omega | with_reducible rfl)) | (simp; done) | (simp; omega)) ?_)
     | (refine z_skip1 (by decide) rfl rfl (by first | (simp only [Bool.not_eq_false', decide_eq_true_eq]; omega) | (with_reducible assumption) | (rw [decide_eq_false] <;> (first | omega | with_reducible rfl)) | (rw [decide_eq_true] <;> (first | omega | with_reducible rfl)) | (simp; done) | (simp; omega)) ?_)
     | refine z_guard1 (by decide) rfl rfl (fun hc => ?_) (fun hc => ?_)
     | refine z_guardb (by decide) rfl rfl (fun hc => ?_) (fun hc => ?_))
     | (refine z_isnil ?_; first
     | refine z_keep1 ?_
     | refine z_keep2 ?_
     | refine z_list ?_
     | refine z_mixed ?_
     | refine z_mono0 ?_
     | refine z_mono1 (by decide) fun g => ?_
     | refine z_mono2 (by decide) (by decide) fun g g' => ?_
     | refine z_mixedx ?_
     | refine z_quiet ?_)
     | (refine z_isop ?_; first
     | refine o_boxa rfl rfl (by decide) fun g => ?_
     | refine o_alloca (e := 30) (vs := Sg.zero.cs) rfl (by kernel_rfl) (by decide) fun g => ?_
     | refine o_alloca (e := 26) (vs := Cx.zero.cs) rfl (by kernel_rfl) (by decide) fun g => ?_
     | refine o_alloca (e := 40) (vs := dCs 0 0 Cx.zero) rfl (by kernel_rfl) (by decide) fun g => ?_
     | refine o_buildf (t := 40) (zs := dCs 0 0 Cx.zero) tabOk rfl rfl (by kernel_rfl) rfl (d_fill _ _ _) (by decide) ?_
     | (refine z_isbin ?_; first
     | refine o_eqa cmp40 rfl rfl (d_typed _ _ _) (d_typed _ _ _) (by decide) ?_
     | refine o_eqa cmp26 rfl rfl (cx_typed _) (cx_typed _) (by decide) ?_
     | (refine z_isb .eql ?_; first
     | refine o_eq rfl rfl (by decide) ?_
     | refine o_beq tabOk rfl rfl rfl (by decide) ?_
     | refine o_peq tabOk rfl rfl (by decide) ?_))
     | (refine z_isload ?_; first
     | refine o_loadp tabOk rfl rfl rfl 1 rfl (cx_len _) (de_c _) (by decide) ?_
     | refine o_loadp tabOk rfl rfl rfl 3 rfl (cx_len _) (de_c _) (by decide) ?_
     | (refine z_ld1 tabOk rfl rfl ?_; first
     | refine o_loadm tabOk rfl rfl rfl (by repeat' (first | exact List.mem_cons_self | apply List.mem_cons_of_mem)) (by first | exact de_k _ | exact de_s _ | exact de_a _ | exact d_k _ _ _ | exact d_n _ _ _ | rfl) (by decide) ?_
     | refine o_loads tabOk (by first | assumption | exact Rds.cons _ (by assumption) | exact Rds.cons _ (Rds.cons _ (by assumption)) | exact own_rds 0 rfl | exact own_rds 1 rfl | exact own_rds 2 rfl) rfl rfl rfl (by first | exact de_k _ | exact de_s _ | exact de_a _ | exact d_k _ _ _ | exact d_n _ _ _ | rfl) (by decide) ?_)
     | (refine z_ldw tabOk rfl rfl ?_; first
     | refine o_loadwm tabOk rfl rfl rfl (by repeat' (first | exact List.mem_cons_self | apply List.mem_cons_of_mem)) (by first | exact sg_len _ | exact cx_len _ | exact d_len _ _ _ | exact de_len _ | exact rf_len _ | (simp only [sg_len, cx_len, d_len, de_len, rf_len]) | rfl) (by decide) ?_))
     | (refine z_isstore ?_; first
     | refine o_storebk 0 tabOk rfl rfl rfl rfl (by first | exact sg_len _ | exact cx_len _ | exact d_len _ _ _ | exact de_len _ | exact rf_len _ | (simp only [sg_len, cx_len, d_len, de_len, rf_len]) | rfl) (by first | exact sg_one _ | exact cx_one _ | exact d_one _ _ _ | exact de_one _ | exact rf_one _ | rfl) (by first | exact sg_len _ | exact cx_len _ | exact d_len _ _ _ | exact de_len _ | exact rf_len _ | (simp only [sg_len, cx_len, d_len, de_len, rf_len]) | rfl) ?_
     | refine o_storebk 1 tabOk rfl rfl rfl rfl (by first | exact sg_len _ | exact cx_len _ | exact d_len _ _ _ | exact de_len _ | exact rf_len _ | (simp only [sg_len, cx_len, d_len, de_len, rf_len]) | rfl) (by first | exact sg_one _ | exact cx_one _ | exact d_one _ _ _ | exact de_one _ | exact rf_one _ | rfl) (by first | exact sg_len _ | exact cx_len _ | exact d_len _ _ _ | exact de_len _ | exact rf_len _ | (simp only [sg_len, cx_len, d_len, de_len, rf_len]) | rfl) ?_
     | (refine z_stw rfl ?_; first
     | ((refine z_sti 0 rfl rfl ?_; refine o_storeb0 rfl tabOk rfl rfl rfl (by first | exact sg_len _ | exact cx_len _ | exact d_len _ _ _ | exact de_len _ | exact rf_len _ | (simp only [sg_len, cx_len, d_len, de_len, rf_len]) | rfl) (by first | exact sg_one _ | exact cx_one _ | exact d_one _ _ _ | exact de_one _ | exact rf_one _ | rfl) (by first | exact sg_len _ | exact cx_len _ | exact d_len _ _ _ | exact de_len _ | exact rf_len _ | (simp only [sg_len, cx_len, d_len, de_len, rf_len]) | rfl) ?_))
     | ((refine z_sti 1 rfl rfl ?_; refine o_storeb1 rfl tabOk rfl rfl rfl (by first | exact sg_len _ | exact cx_len _ | exact d_len _ _ _ | exact de_len _ | exact rf_len _ | (simp only [sg_len, cx_len, d_len, de_len, rf_len]) | rfl) (by first | exact sg_one _ | exact cx_one _ | exact d_one _ _ _ | exact de_one _ | exact rf_one _ | rfl) (by first | exact sg_len _ | exact cx_len _ | exact d_len _ _ _ | exact de_len _ | exact rf_len _ | (simp only [sg_len, cx_len, d_len, de_len, rf_len]) | rfl) ?_))
     | ((refine z_sti 2 rfl rfl ?_; refine o_storeb2 rfl tabOk rfl rfl rfl (by first | exact sg_len _ | exact cx_len _ | exact d_len _ _ _ | exact de_len _ | exact rf_len _ | (simp only [sg_len, cx_len, d_len, de_len, rf_len]) | rfl) (by first | exact sg_one _ | exact cx_one _ | exact d_one _ _ _ | exact de_one _ | exact rf_one _ | rfl) (by first | exact sg_len _ | exact cx_len _ | exact d_len _ _ _ | exact de_len _ | exact rf_len _ | (simp only [sg_len, cx_len, d_len, de_len, rf_len]) | rfl) ?_))
     | ((refine z_sti 3 rfl rfl ?_; refine o_storeb3 rfl tabOk rfl rfl rfl (by first | exact sg_len _ | exact cx_len _ | exact d_len _ _ _ | exact de_len _ | exact rf_len _ | (simp only [sg_len, cx_len, d_len, de_len, rf_len]) | rfl) (by first | exact sg_one _ | exact cx_one _ | exact d_one _ _ _ | exact de_one _ | exact rf_one _ | rfl) (by first | exact sg_len _ | exact cx_len _ | exact d_len _ _ _ | exact de_len _ | exact rf_len _ | (simp only [sg_len, cx_len, d_len, de_len, rf_len]) | rfl) ?_))
     | ((refine z_sti 4 rfl rfl ?_; refine o_storeb4 rfl tabOk rfl rfl rfl (by first | exact sg_len _ | exact cx_len _ | exact d_len _ _ _ | exact de_len _ | exact rf_len _ | (simp only [sg_len, cx_len, d_len, de_len, rf_len]) | rfl) (by first | exact sg_one _ | exact cx_one _ | exact d_one _ _ _ | exact de_one _ | exact rf_one _ | rfl) (by first | exact sg_len _ | exact cx_len _ | exact d_len _ _ _ | exact de_len _ | exact rf_len _ | (simp only [sg_len, cx_len, d_len, de_len, rf_len]) | rfl) ?_))
     | ((refine z_sti 5 rfl rfl ?_; refine o_storeb5 rfl tabOk rfl rfl rfl (by first | exact sg_len _ | exact cx_len _ | exact d_len _ _ _ | exact de_len _ | exact rf_len _ | (simp only [sg_len, cx_len, d_len, de_len, rf_len]) | rfl) (by first | exact sg_one _ | exact cx_one _ | exact d_one _ _ _ | exact de_one _ | exact rf_one _ | rfl) (by first | exact sg_len _ | exact cx_len _ | exact d_len _ _ _ | exact de_len _ | exact rf_len _ | (simp only [sg_len, cx_len, d_len, de_len, rf_len]) | rfl) ?_))
     | ((refine z_sti 6 rfl rfl ?_; refine o_storeb6 rfl tabOk rfl rfl rfl (by first | exact sg_len _ | exact cx_len _ | exact d_len _ _ _ | exact de_len _ | exact rf_len _ | (simp only [sg_len, cx_len, d_len, de_len, rf_len]) | rfl) (by first | exact sg_one _ | exact cx_one _ | exact d_one _ _ _ | exact de_one _ | exact rf_one _ | rfl) (by first | exact sg_len _ | exact cx_len _ | exact d_len _ _ _ | exact de_len _ | exact rf_len _ | (simp only [sg_len, cx_len, d_len, de_len, rf_len]) | rfl) ?_)))
     | (refine z_st1 rfl rfl ?_; first
     | refine o_store rfl tabOk rfl rfl rfl rfl rfl (by first | exact de_k _ | exact de_s _ | exact de_a _ | exact d_k _ _ _ | exact d_n _ _ _ | rfl) (by first | rfl) ?_
     | ((refine z_sti 1 rfl rfl ?_; refine o_store1 rfl tabOk rfl rfl rfl rfl rfl (by first | exact de_k _ | exact de_s _ | exact de_a _ | exact d_k _ _ _ | exact d_n _ _ _ | rfl) (by first | rfl) ?_))
     | ((refine z_sti 2 rfl rfl ?_; refine o_store2 rfl tabOk rfl rfl rfl rfl rfl (by first | exact de_k _ | exact de_s _ | exact de_a _ | exact d_k _ _ _ | exact d_n _ _ _ | rfl) (by first | rfl) ?_))
     | ((refine z_sti 3 rfl rfl ?_; refine o_store3 rfl tabOk rfl rfl rfl rfl rfl (by first | exact de_k _ | exact de_s _ | exact de_a _ | exact d_k _ _ _ | exact d_n _ _ _ | rfl) (by first | rfl) ?_))
     | ((refine z_sti 4 rfl rfl ?_; refine o_store4 rfl tabOk rfl rfl rfl rfl rfl (by first | exact de_k _ | exact de_s _ | exact de_a _ | exact d_k _ _ _ | exact d_n _ _ _ | rfl) (by first | rfl) ?_))
     | ((refine z_sti 5 rfl rfl ?_; refine o_store5 rfl tabOk rfl rfl rfl rfl rfl (by first | exact de_k _ | exact de_s _ | exact de_a _ | exact d_k _ _ _ | exact d_n _ _ _ | rfl) (by first | rfl) ?_))
     | ((refine z_sti 6 rfl rfl ?_; refine o_store6 rfl tabOk rfl rfl rfl rfl rfl (by first | exact de_k _ | exact de_s _ | exact de_a _ | exact d_k _ _ _ | exact d_n _ _ _ | rfl) (by first | rfl) ?_))))
     | (refine z_iscall ?_; first
     | ((refine z_iscallf 12 ?_; refine o_fn rfl Tryd.func12 rfl rfl rfl (set_no _ _ _ ha hs) (by decide) ?_))
     | ((refine z_iscallf 15 ?_; refine z_front rfl 4 rfl ?_; refine o_call Tryd.func15 rfl rfl rfl (rset_no _ _ _ _ ha hs) (List.Perm.refl _) (by decide) fun _ _ => ?_))
     | ((refine z_iscallf 9 ?_; refine o_fn rfl Tryd.func9 rfl rfl rfl (raise_fn _ _) (by decide) ?_))
     | ((refine z_iscallf 11 ?_; refine o_fn rfl Tryd.func11 rfl rfl rfl (ret_fn _) (by decide) ?_))
     | ((refine z_iscallf 18 ?_; refine o_fn rfl Tryd.func18 rfl rfl rfl (fork_fn _) (by decide) ?_))
     | ((refine z_iscallf 19 ?_; refine o_fn rfl Tryd.func19 rfl rfl rfl (exec_fn _) (by decide) ?_)))
     | (refine z_ispick ?_; first
     | (refine o_pick1 rfl (by first | with_reducible rfl | with_reducible assumption | ((with_reducible refine decide_eq_true ?_); first | with_reducible rfl | with_reducible assumption | omega)) rfl (by decide) ?_)
     | (refine o_pick0 rfl (by first | with_reducible rfl | with_reducible assumption | ((with_reducible refine decide_eq_false ?_); first | with_reducible assumption | omega)) rfl (by decide) ?_)
     | (refine o_pick1 rfl (by first | (simp only [Bool.not_eq_true', decide_eq_false_iff_not]; omega) | (with_reducible assumption) | (rw [decide_eq_false] <;> (first | omega | with_reducible rfl)) | (rw [decide_eq_true] <;> (first | omega | with_reducible rfl)) | (simp; done) | (simp; omega)) rfl (by decide) ?_)
     | (refine o_pick0 rfl (by first | (simp only [Bool.not_eq_false', decide_eq_true_eq]; omega) | (with_reducible assumption) | (rw [decide_eq_false] <;> (first | omega | with_reducible rfl)) | (rw [decide_eq_true] <;> (first | omega | with_reducible rfl)) | (simp; done) | (simp; omega)) rfl (by decide) ?_))
     | refine o_move rfl (by decide) ?_
     | refine o_assign rfl (by decide) ?_
     | refine o_nil rfl (by decide) ?_
     | refine o_extract rfl rfl (by decide) ?_
     | refine o_not rfl (by decide) ?_
     | refine o_field0 tabOk rfl rfl rfl rfl rfl (by decide) ?_
     | refine o_field tabOk rfl rfl rfl rfl rfl (by decide) ?_
     | refine o_conv tabOk rfl rfl rfl (by decide) ?_))
set_option maxHeartbeats 8000000 in
theorem does_next {s : Sg} {r : Rf} (h : Re s r) (b : Nat) (d : De) (fr : List Chunk) (hk : 5 ≤ d.k ∧ d.k ≤ 6) (hT : Rds fr (some ⟨0, 0, none⟩) deB) : DoesDeed s r b d fr := by
  obtain ⟨r', hr, hnx⟩ := re_next h b d.c
  refine ⟨((s.next d.c).1, r'), hr, ?_⟩
  intro w hw
  refine f_enter Tryd.func6 rfl Tryd.ntmps6 rfl hw ?_
  repeat' (first
   | ((refine s_sel 5 [4, 0, 1, 2, 3] (by decide) ?_; refine c_keep1 (id := 16) mixed (by kernel_rfl) ?_))
   | (refine s_is ?_; first
   | (refine s_isret ?_; first
   | (exact f_r2 rfl (res_c tabOk rfl rfl rfl 0 rfl (sg_len _)) (res_t (by show some (Value.bool _) = some (Value.bool true); rw [d_same])) () trivial rfl (fun w h => ((h.sel 7 [2, 0, 1, 3, 4, 5, 6] (by decide)).mask [true, false, false, false, false, false, false]))))
   | (refine s_isw ?_; first
   | refine c_seq ?_
   | refine c_block ?_
   | refine c_region ?_
   | refine c_mixed mixed (by kernel_rfl) ?_
   | refine c_skip ?_
   | refine c_ret ?_
   | refine c_exit ?_
   | (refine s_iscond ?_; first
   | (refine c_true rfl (by first | with_reducible rfl | with_reducible assumption | ((with_reducible refine decide_eq_true ?_); first | with_reducible rfl | with_reducible assumption | omega)) ?_)
   | (refine c_false rfl (by first | with_reducible rfl | with_reducible assumption | ((with_reducible refine decide_eq_false ?_); first | with_reducible assumption | omega)) ?_)
   | (refine c_true rfl (by first | (simp only [Bool.not_eq_true', decide_eq_false_iff_not]; omega) | (with_reducible assumption) | (rw [decide_eq_false] <;> (first | omega | with_reducible rfl)) | (rw [decide_eq_true] <;> (first | omega | with_reducible rfl)) | (simp; done) | (simp; omega)) ?_)
   | (refine c_false rfl (by first | (simp only [Bool.not_eq_false', decide_eq_true_eq]; omega) | (with_reducible assumption) | (rw [decide_eq_false] <;> (first | omega | with_reducible rfl)) | (rw [decide_eq_true] <;> (first | omega | with_reducible rfl)) | (simp; done) | (simp; omega)) ?_)
   | refine c_cond rfl (fun hc => ?_) (fun hc => ?_)
   | refine c_condb rfl (fun hc => ?_) (fun hc => ?_)))
   | refine x_then ?_
   | refine x_then_ret ?_
   | refine x_then_exit ?_
   | refine x_block _ ?_
   | refine x_block_ret _ ?_
   | refine x_block_exit _ ?_
   | refine x_block_past (by decide) ?_
   | refine z_tailm ?_)
   | (refine z_isg1 ?_; first
   | refine z_skipu (by decide) rfl rfl ?_
   | (refine z_want1 rfl rfl (by first | with_reducible rfl | with_reducible assumption | ((with_reducible refine decide_eq_true ?_); first | with_reducible rfl | with_reducible assumption | omega)) ?_)
   | (refine z_skip1 (by decide) rfl rfl (by first | with_reducible rfl | with_reducible assumption | ((with_reducible refine decide_eq_false ?_); first | with_reducible assumption | omega)) ?_)
   | (refine z_want1 rfl rfl (by first | (simp only [Bool.not_eq_true', decide_eq_false_iff_not]; omega) | (with_reducible assumption) | (rw [decide_eq_false] <;> (first | omega | with_reducible rfl)) | (rw [decide_eq_true] <;> (first | omega | with_reducible rfl)) | (simp; done) | (simp; omega)) ?_)
   | (refine z_skip1 (by decide) rfl rfl (by first | (simp only [Bool.not_eq_false', decide_eq_true_eq]; omega) | (with_reducible assumption) | (rw [decide_eq_false] <;> (first | omega | with_reducible rfl)) | (rw [decide_eq_true] <;> (first | omega | with_reducible rfl)) | (simp; done) | (simp; omega)) ?_)
   | refine z_guard1 (by decide) rfl rfl (fun hc => ?_) (fun hc => ?_)
   | refine z_guardb (by decide) rfl rfl (fun hc => ?_) (fun hc => ?_))
   | (refine z_isnil ?_; first
   | refine z_keep1 ?_
   | refine z_keep2 ?_
   | refine z_list ?_
   | refine z_mixed ?_
   | refine z_mono0 ?_
   | refine z_mono1 (by decide) fun g => ?_
   | refine z_mono2 (by decide) (by decide) fun g g' => ?_
   | refine z_mixedx ?_
   | refine z_quiet ?_)
   | (refine z_isop ?_; first
   | refine o_boxa rfl rfl (by decide) fun g => ?_
   | refine o_alloca (e := 30) (vs := Sg.zero.cs) rfl (by kernel_rfl) (by decide) fun g => ?_
   | refine o_alloca (e := 26) (vs := Cx.zero.cs) rfl (by kernel_rfl) (by decide) fun g => ?_
   | refine o_alloca (e := 40) (vs := dCs 0 0 Cx.zero) rfl (by kernel_rfl) (by decide) fun g => ?_
   | refine o_buildf (t := 40) (zs := dCs 0 0 Cx.zero) tabOk rfl rfl (by kernel_rfl) rfl (d_fill _ _ _) (by decide) ?_
   | (refine z_isbin ?_; first
   | refine o_eqa cmp40 rfl rfl (d_typed _ _ _) (d_typed _ _ _) (by decide) ?_
   | refine o_eqa cmp26 rfl rfl (cx_typed _) (cx_typed _) (by decide) ?_
   | (refine z_isb .eql ?_; first
   | refine o_eq rfl rfl (by decide) ?_
   | refine o_beq tabOk rfl rfl rfl (by decide) ?_
   | refine o_peq tabOk rfl rfl (by decide) ?_))
   | (refine z_isload ?_; first
   | refine o_loadp tabOk rfl rfl rfl 1 rfl (cx_len _) (de_c _) (by decide) ?_
   | refine o_loadp tabOk rfl rfl rfl 3 rfl (cx_len _) (de_c _) (by decide) ?_
   | (refine z_ld1 tabOk rfl rfl ?_; first
   | refine o_loadm tabOk rfl rfl rfl (by repeat' (first | exact List.mem_cons_self | apply List.mem_cons_of_mem)) (by first | exact de_k _ | exact de_s _ | exact de_a _ | exact d_k _ _ _ | exact d_n _ _ _ | rfl) (by decide) ?_
   | refine o_loads tabOk (by first | assumption | exact Rds.cons _ (by assumption) | exact Rds.cons _ (Rds.cons _ (by assumption)) | exact own_rds 0 rfl | exact own_rds 1 rfl | exact own_rds 2 rfl) rfl rfl rfl (by first | exact de_k _ | exact de_s _ | exact de_a _ | exact d_k _ _ _ | exact d_n _ _ _ | rfl) (by decide) ?_)
   | (refine z_ldw tabOk rfl rfl ?_; first
   | refine o_loadwm tabOk rfl rfl rfl (by repeat' (first | exact List.mem_cons_self | apply List.mem_cons_of_mem)) (by first | exact sg_len _ | exact cx_len _ | exact d_len _ _ _ | exact de_len _ | exact rf_len _ | (simp only [sg_len, cx_len, d_len, de_len, rf_len]) | rfl) (by decide) ?_))
   | (refine z_isstore ?_; first
   | refine o_storebk 0 tabOk rfl rfl rfl rfl (by first | exact sg_len _ | exact cx_len _ | exact d_len _ _ _ | exact de_len _ | exact rf_len _ | (simp only [sg_len, cx_len, d_len, de_len, rf_len]) | rfl) (by first | exact sg_one _ | exact cx_one _ | exact d_one _ _ _ | exact de_one _ | exact rf_one _ | rfl) (by first | exact sg_len _ | exact cx_len _ | exact d_len _ _ _ | exact de_len _ | exact rf_len _ | (simp only [sg_len, cx_len, d_len, de_len, rf_len]) | rfl) ?_
   | refine o_storebk 1 tabOk rfl rfl rfl rfl (by first | exact sg_len _ | exact cx_len _ | exact d_len _ _ _ | exact de_len _ | exact rf_len _ | (simp only [sg_len, cx_len, d_len, de_len, rf_len]) | rfl) (by first | exact sg_one _ | exact cx_one _ | exact d_one _ _ _ | exact de_one _ | exact rf_one _ | rfl) (by first | exact sg_len _ | exact cx_len _ | exact d_len _ _ _ | exact de_len _ | exact rf_len _ | (simp only [sg_len, cx_len, d_len, de_len, rf_len]) | rfl) ?_
   | (refine z_stw rfl ?_; first
   | ((refine z_sti 0 rfl rfl ?_; refine o_storeb0 rfl tabOk rfl rfl rfl (by first | exact sg_len _ | exact cx_len _ | exact d_len _ _ _ | exact de_len _ | exact rf_len _ | (simp only [sg_len, cx_len, d_len, de_len, rf_len]) | rfl) (by first | exact sg_one _ | exact cx_one _ | exact d_one _ _ _ | exact de_one _ | exact rf_one _ | rfl) (by first | exact sg_len _ | exact cx_len _ | exact d_len _ _ _ | exact de_len _ | exact rf_len _ | (simp only [sg_len, cx_len, d_len, de_len, rf_len]) | rfl) ?_))
   | ((refine z_sti 1 rfl rfl ?_; refine o_storeb1 rfl tabOk rfl rfl rfl (by first | exact sg_len _ | exact cx_len _ | exact d_len _ _ _ | exact de_len _ | exact rf_len _ | (simp only [sg_len, cx_len, d_len, de_len, rf_len]) | rfl) (by first | exact sg_one _ | exact cx_one _ | exact d_one _ _ _ | exact de_one _ | exact rf_one _ | rfl) (by first | exact sg_len _ | exact cx_len _ | exact d_len _ _ _ | exact de_len _ | exact rf_len _ | (simp only [sg_len, cx_len, d_len, de_len, rf_len]) | rfl) ?_))
   | ((refine z_sti 2 rfl rfl ?_; refine o_storeb2 rfl tabOk rfl rfl rfl (by first | exact sg_len _ | exact cx_len _ | exact d_len _ _ _ | exact de_len _ | exact rf_len _ | (simp only [sg_len, cx_len, d_len, de_len, rf_len]) | rfl) (by first | exact sg_one _ | exact cx_one _ | exact d_one _ _ _ | exact de_one _ | exact rf_one _ | rfl) (by first | exact sg_len _ | exact cx_len _ | exact d_len _ _ _ | exact de_len _ | exact rf_len _ | (simp only [sg_len, cx_len, d_len, de_len, rf_len]) | rfl) ?_))
   | ((refine z_sti 3 rfl rfl ?_; refine o_storeb3 rfl tabOk rfl rfl rfl (by first | exact sg_len _ | exact cx_len _ | exact d_len _ _ _ | exact de_len _ | exact rf_len _ | (simp only [sg_len, cx_len, d_len, de_len, rf_len]) | rfl) (by first | exact sg_one _ | exact cx_one _ | exact d_one _ _ _ | exact de_one _ | exact rf_one _ | rfl) (by first | exact sg_len _ | exact cx_len _ | exact d_len _ _ _ | exact de_len _ | exact rf_len _ | (simp only [sg_len, cx_len, d_len, de_len, rf_len]) | rfl) ?_))
   | ((refine z_sti 4 rfl rfl ?_; refine o_storeb4 rfl tabOk rfl rfl rfl (by first | exact sg_len _ | exact cx_len _ | exact d_len _ _ _ | exact de_len _ | exact rf_len _ | (simp only [sg_len, cx_len, d_len, de_len, rf_len]) | rfl) (by first | exact sg_one _ | exact cx_one _ | exact d_one _ _ _ | exact de_one _ | exact rf_one _ | rfl) (by first | exact sg_len _ | exact cx_len _ | exact d_len _ _ _ | exact de_len _ | exact rf_len _ | (simp only [sg_len, cx_len, d_len, de_len, rf_len]) | rfl) ?_))
   | ((refine z_sti 5 rfl rfl ?_; refine o_storeb5 rfl tabOk rfl rfl rfl (by first | exact sg_len _ | exact cx_len _ | exact d_len _ _ _ | exact de_len _ | exact rf_len _ | (simp only [sg_len, cx_len, d_len, de_len, rf_len]) | rfl) (by first | exact sg_one _ | exact cx_one _ | exact d_one _ _ _ | exact de_one _ | exact rf_one _ | rfl) (by first | exact sg_len _ | exact cx_len _ | exact d_len _ _ _ | exact de_len _ | exact rf_len _ | (simp only [sg_len, cx_len, d_len, de_len, rf_len]) | rfl) ?_))
   | ((refine z_sti 6 rfl rfl ?_; refine o_storeb6 rfl tabOk rfl rfl rfl (by first | exact sg_len _ | exact cx_len _ | exact d_len _ _ _ | exact de_len _ | exact rf_len _ | (simp only [sg_len, cx_len, d_len, de_len, rf_len]) | rfl) (by first | exact sg_one _ | exact cx_one _ | exact d_one _ _ _ | exact de_one _ | exact rf_one _ | rfl) (by first | exact sg_len _ | exact cx_len _ | exact d_len _ _ _ | exact de_len _ | exact rf_len _ | (simp only [sg_len, cx_len, d_len, de_len, rf_len]) | rfl) ?_)))
   | (refine z_st1 rfl rfl ?_; first
   | refine o_store rfl tabOk rfl rfl rfl rfl rfl (by first | exact de_k _ | exact de_s _ | exact de_a _ | exact d_k _ _ _ | exact d_n _ _ _ | rfl) (by first | rfl) ?_
   | ((refine z_sti 1 rfl rfl ?_; refine o_store1 rfl tabOk rfl rfl rfl rfl rfl (by first | exact de_k _ | exact de_s _ | exact de_a _ | exact d_k _ _ _ | exact d_n _ _ _ | rfl) (by first | rfl) ?_))
   | ((refine z_sti 2 rfl rfl ?_; refine o_store2 rfl tabOk rfl rfl rfl rfl rfl (by first | exact de_k _ | exact de_s _ | exact de_a _ | exact d_k _ _ _ | exact d_n _ _ _ | rfl) (by first | rfl) ?_))
   | ((refine z_sti 3 rfl rfl ?_; refine o_store3 rfl tabOk rfl rfl rfl rfl rfl (by first | exact de_k _ | exact de_s _ | exact de_a _ | exact d_k _ _ _ | exact d_n _ _ _ | rfl) (by first | rfl) ?_))
   | ((refine z_sti 4 rfl rfl ?_; refine o_store4 rfl tabOk rfl rfl rfl rfl rfl (by first | exact de_k _ | exact de_s _ | exact de_a _ | exact d_k _ _ _ | exact d_n _ _ _ | rfl) (by first | rfl) ?_))
   | ((refine z_sti 5 rfl rfl ?_; refine o_store5 rfl tabOk rfl rfl rfl rfl rfl (by first | exact de_k _ | exact de_s _ | exact de_a _ | exact d_k _ _ _ | exact d_n _ _ _ | rfl) (by first | rfl) ?_))
   | ((refine z_sti 6 rfl rfl ?_; refine o_store6 rfl tabOk rfl rfl rfl rfl rfl (by first | exact de_k _ | exact de_s _ | exact de_a _ | exact d_k _ _ _ | exact d_n _ _ _ | rfl) (by first | rfl) ?_))))
   | (refine z_iscall ?_; first
   | ((refine z_iscallf 7 ?_; refine o_calla Tryd.func7 rfl rfl rfl (next_c _ _ _ (Rds.cons _ (Rds.cons _ (Rds.cons _ (Rds.cons _ hT)))) (next_z h)) (by decide) fun _ _ => ?_))
   | ((refine z_iscallf 16 ?_; refine z_front rfl 5 rfl ?_; refine o_call Tryd.func16 rfl rfl rfl hnx (List.Perm.refl _) (by decide) fun _ _ => ?_))
   | ((refine z_iscallf 9 ?_; refine o_fn rfl Tryd.func9 rfl rfl rfl (raise_fn _ _) (by decide) ?_))
   | ((refine z_iscallf 11 ?_; refine o_fn rfl Tryd.func11 rfl rfl rfl (ret_fn _) (by decide) ?_))
   | ((refine z_iscallf 18 ?_; refine o_fn rfl Tryd.func18 rfl rfl rfl (fork_fn _) (by decide) ?_))
   | ((refine z_iscallf 19 ?_; refine o_fn rfl Tryd.func19 rfl rfl rfl (exec_fn _) (by decide) ?_)))
   | (refine z_ispick ?_; first
   | (refine o_pick1 rfl (by first | with_reducible rfl | with_reducible assumption | ((with_reducible refine decide_eq_true ?_); first | with_reducible rfl | with_reducible assumption | omega)) rfl (by decide) ?_)
   | (refine o_pick0 rfl (by first | with_reducible rfl | with_reducible assumption | ((with_reducible refine decide_eq_false ?_); first | with_reducible assumption | omega)) rfl (by decide) ?_)
   | (refine o_pick1 rfl (by first | (simp only [Bool.not_eq_true', decide_eq_false_iff_not]; omega) | (with_reducible assumption) | (rw [decide_eq_false] <;> (first | omega | with_reducible rfl)) | (rw [decide_eq_true] <;> (first | omega | with_reducible rfl)) | (simp; done) | (simp; omega)) rfl (by decide) ?_)
   | (refine o_pick0 rfl (by first | (simp only [Bool.not_eq_false', decide_eq_true_eq]; omega) | (with_reducible assumption) | (rw [decide_eq_false] <;> (first | omega | with_reducible rfl)) | (rw [decide_eq_true] <;> (first | omega | with_reducible rfl)) | (simp; done) | (simp; omega)) rfl (by decide) ?_))
   | refine o_move rfl (by decide) ?_
   | refine o_assign rfl (by decide) ?_
   | refine o_nil rfl (by decide) ?_
   | refine o_extract rfl rfl (by decide) ?_
   | refine o_not rfl (by decide) ?_
   | refine o_field0 tabOk rfl rfl rfl rfl rfl (by decide) ?_
   | refine o_field tabOk rfl rfl rfl rfl rfl (by decide) ?_
   | refine o_conv tabOk rfl rfl rfl (by decide) ?_))
set_option maxHeartbeats 8000000 in
theorem does_ret {s : Sg} {r : Rf} (h : Re s r) (b : Nat) (d : De) (fr : List Chunk) (hk : d.k = 7) : DoesDeed s r b d fr := by
  obtain ⟨h1, h2, h3⟩ := re_ret h
  have e1 : eqB (if s.b then s.c else Cx.zero).cs r.c.cs = true := by rw [h2, cx_same]
  refine ⟨(s.ret, ({ r with b := false, c := Cx.zero } : Rf)), h1, ?_⟩
  intro w hw
  refine f_enter Tryd.func6 rfl Tryd.ntmps6 rfl hw ?_
  repeat' (first
   | ((refine s_sel 5 [4, 0, 1, 2, 3] (by decide) ?_; refine c_keep1 (id := 20) mixed (by kernel_rfl) ?_))
   | (refine s_is ?_; first
   | (refine s_isret ?_; first
   | (exact f_r2 rfl (res_c tabOk rfl rfl rfl 0 rfl (sg_len _)) (res_t (by show some (Value.bool _) = some (Value.bool true); simp [h3])) () trivial rfl (fun w h => ((h.sel 7 [2, 0, 1, 3, 4, 5, 6] (by decide)).mask [true, false, false, false, false, false, false]))))
   | (refine s_isw ?_; first
   | refine c_seq ?_
   | refine c_block ?_
   | refine c_region ?_
   | refine c_mixed mixed (by kernel_rfl) ?_
   | refine c_skip ?_
   | refine c_ret ?_
   | refine c_exit ?_
   | (refine s_iscond ?_; first
   | (refine c_true rfl (by first | with_reducible rfl | with_reducible assumption | ((with_reducible refine decide_eq_true ?_); first | with_reducible rfl | with_reducible assumption | omega)) ?_)
   | (refine c_false rfl (by first | with_reducible rfl | with_reducible assumption | ((with_reducible refine decide_eq_false ?_); first | with_reducible assumption | omega)) ?_)
   | (refine c_true rfl (by first | (simp only [Bool.not_eq_true', decide_eq_false_iff_not]; omega) | (with_reducible assumption) | (rw [decide_eq_false] <;> (first | omega | with_reducible rfl)) | (rw [decide_eq_true] <;> (first | omega | with_reducible rfl)) | (simp; done) | (simp; omega)) ?_)
   | (refine c_false rfl (by first | (simp only [Bool.not_eq_false', decide_eq_true_eq]; omega) | (with_reducible assumption) | (rw [decide_eq_false] <;> (first | omega | with_reducible rfl)) | (rw [decide_eq_true] <;> (first | omega | with_reducible rfl)) | (simp; done) | (simp; omega)) ?_)
   | refine c_cond rfl (fun hc => ?_) (fun hc => ?_)
   | refine c_condb rfl (fun hc => ?_) (fun hc => ?_)))
   | refine x_then ?_
   | refine x_then_ret ?_
   | refine x_then_exit ?_
   | refine x_block _ ?_
   | refine x_block_ret _ ?_
   | refine x_block_exit _ ?_
   | refine x_block_past (by decide) ?_
   | refine z_tailm ?_)
   | (refine z_isg1 ?_; first
   | refine z_skipu (by decide) rfl rfl ?_
   | (refine z_want1 rfl rfl (by first | with_reducible rfl | with_reducible assumption | ((with_reducible refine decide_eq_true ?_); first | with_reducible rfl | with_reducible assumption | omega)) ?_)
   | (refine z_skip1 (by decide) rfl rfl (by first | with_reducible rfl | with_reducible assumption | ((with_reducible refine decide_eq_false ?_); first | with_reducible assumption | omega)) ?_)
   | (refine z_want1 rfl rfl (by first | (simp only [Bool.not_eq_true', decide_eq_false_iff_not]; omega) | (with_reducible assumption) | (rw [decide_eq_false] <;> (first | omega | with_reducible rfl)) | (rw [decide_eq_true] <;> (first | omega | with_reducible rfl)) | (simp; done) | (simp; omega)) ?_)
   | (refine z_skip1 (by decide) rfl rfl (by first | (simp only [Bool.not_eq_false', decide_eq_true_eq]; omega) | (with_reducible assumption) | (rw [decide_eq_false] <;> (first | omega | with_reducible rfl)) | (rw [decide_eq_true] <;> (first | omega | with_reducible rfl)) | (simp; done) | (simp; omega)) ?_)
   | refine z_guard1 (by decide) rfl rfl (fun hc => ?_) (fun hc => ?_)
   | refine z_guardb (by decide) rfl rfl (fun hc => ?_) (fun hc => ?_))
   | (refine z_isnil ?_; first
   | refine z_keep1 ?_
   | refine z_keep2 ?_
   | refine z_list ?_
   | refine z_mixed ?_
   | refine z_mono0 ?_
   | refine z_mono1 (by decide) fun g => ?_
   | refine z_mono2 (by decide) (by decide) fun g g' => ?_
   | refine z_mixedx ?_
   | refine z_quiet ?_)
   | (refine z_isop ?_; first
   | refine o_boxa rfl rfl (by decide) fun g => ?_
   | refine o_alloca (e := 30) (vs := Sg.zero.cs) rfl (by kernel_rfl) (by decide) fun g => ?_
   | refine o_alloca (e := 26) (vs := Cx.zero.cs) rfl (by kernel_rfl) (by decide) fun g => ?_
   | refine o_alloca (e := 40) (vs := dCs 0 0 Cx.zero) rfl (by kernel_rfl) (by decide) fun g => ?_
   | refine o_buildf (t := 40) (zs := dCs 0 0 Cx.zero) tabOk rfl rfl (by kernel_rfl) rfl (d_fill _ _ _) (by decide) ?_
   | (refine z_isbin ?_; first
   | refine o_eqa cmp40 rfl rfl (d_typed _ _ _) (d_typed _ _ _) (by decide) ?_
   | refine o_eqa cmp26 rfl rfl (cx_typed _) (cx_typed _) (by decide) ?_
   | (refine z_isb .eql ?_; first
   | refine o_eq rfl rfl (by decide) ?_
   | refine o_beq tabOk rfl rfl rfl (by decide) ?_
   | refine o_peq tabOk rfl rfl (by decide) ?_))
   | (refine z_isload ?_; first
   | refine o_loadp tabOk rfl rfl rfl 1 rfl (cx_len _) (de_c _) (by decide) ?_
   | refine o_loadp tabOk rfl rfl rfl 3 rfl (cx_len _) (de_c _) (by decide) ?_
   | (refine z_ld1 tabOk rfl rfl ?_; first
   | refine o_loadm tabOk rfl rfl rfl (by repeat' (first | exact List.mem_cons_self | apply List.mem_cons_of_mem)) (by first | exact de_k _ | exact de_s _ | exact de_a _ | exact d_k _ _ _ | exact d_n _ _ _ | rfl) (by decide) ?_
   | refine o_loads tabOk (by first | assumption | exact Rds.cons _ (by assumption) | exact Rds.cons _ (Rds.cons _ (by assumption)) | exact own_rds 0 rfl | exact own_rds 1 rfl | exact own_rds 2 rfl) rfl rfl rfl (by first | exact de_k _ | exact de_s _ | exact de_a _ | exact d_k _ _ _ | exact d_n _ _ _ | rfl) (by decide) ?_)
   | (refine z_ldw tabOk rfl rfl ?_; first
   | refine o_loadwm tabOk rfl rfl rfl (by repeat' (first | exact List.mem_cons_self | apply List.mem_cons_of_mem)) (by first | exact sg_len _ | exact cx_len _ | exact d_len _ _ _ | exact de_len _ | exact rf_len _ | (simp only [sg_len, cx_len, d_len, de_len, rf_len]) | rfl) (by decide) ?_))
   | (refine z_isstore ?_; first
   | refine o_storebk 0 tabOk rfl rfl rfl rfl (by first | exact sg_len _ | exact cx_len _ | exact d_len _ _ _ | exact de_len _ | exact rf_len _ | (simp only [sg_len, cx_len, d_len, de_len, rf_len]) | rfl) (by first | exact sg_one _ | exact cx_one _ | exact d_one _ _ _ | exact de_one _ | exact rf_one _ | rfl) (by first | exact sg_len _ | exact cx_len _ | exact d_len _ _ _ | exact de_len _ | exact rf_len _ | (simp only [sg_len, cx_len, d_len, de_len, rf_len]) | rfl) ?_
   | refine o_storebk 1 tabOk rfl rfl rfl rfl (by first | exact sg_len _ | exact cx_len _ | exact d_len _ _ _ | exact de_len _ | exact rf_len _ | (simp only [sg_len, cx_len, d_len, de_len, rf_len]) | rfl) (by first | exact sg_one _ | exact cx_one _ | exact d_one _ _ _ | exact de_one _ | exact rf_one _ | rfl) (by first | exact sg_len _ | exact cx_len _ | exact d_len _ _ _ | exact de_len _ | exact rf_len _ | (simp only [sg_len, cx_len, d_len, de_len, rf_len]) | rfl) ?_
   | (refine z_stw rfl ?_; first
   | ((refine z_sti 0 rfl rfl ?_; refine o_storeb0 rfl tabOk rfl rfl rfl (by first | exact sg_len _ | exact cx_len _ | exact d_len _ _ _ | exact de_len _ | exact rf_len _ | (simp only [sg_len, cx_len, d_len, de_len, rf_len]) | rfl) (by first | exact sg_one _ | exact cx_one _ | exact d_one _ _ _ | exact de_one _ | exact rf_one _ | rfl) (by first | exact sg_len _ | exact cx_len _ | exact d_len _ _ _ | exact de_len _ | exact rf_len _ | (simp only [sg_len, cx_len, d_len, de_len, rf_len]) | rfl) ?_))
   | ((refine z_sti 1 rfl rfl ?_; refine o_storeb1 rfl tabOk rfl rfl rfl (by first | exact sg_len _ | exact cx_len _ | exact d_len _ _ _ | exact de_len _ | exact rf_len _ | (simp only [sg_len, cx_len, d_len, de_len, rf_len]) | rfl) (by first | exact sg_one _ | exact cx_one _ | exact d_one _ _ _ | exact de_one _ | exact rf_one _ | rfl) (by first | exact sg_len _ | exact cx_len _ | exact d_len _ _ _ | exact de_len _ | exact rf_len _ | (simp only [sg_len, cx_len, d_len, de_len, rf_len]) | rfl) ?_))
   | ((refine z_sti 2 rfl rfl ?_; refine o_storeb2 rfl tabOk rfl rfl rfl (by first | exact sg_len _ | exact cx_len _ | exact d_len _ _ _ | exact de_len _ | exact rf_len _ | (simp only [sg_len, cx_len, d_len, de_len, rf_len]) | rfl) (by first | exact sg_one _ | exact cx_one _ | exact d_one _ _ _ | exact de_one _ | exact rf_one _ | rfl) (by first | exact sg_len _ | exact cx_len _ | exact d_len _ _ _ | exact de_len _ | exact rf_len _ | (simp only [sg_len, cx_len, d_len, de_len, rf_len]) | rfl) ?_))
   | ((refine z_sti 3 rfl rfl ?_; refine o_storeb3 rfl tabOk rfl rfl rfl (by first | exact sg_len _ | exact cx_len _ | exact d_len _ _ _ | exact de_len _ | exact rf_len _ | (simp only [sg_len, cx_len, d_len, de_len, rf_len]) | rfl) (by first | exact sg_one _ | exact cx_one _ | exact d_one _ _ _ | exact de_one _ | exact rf_one _ | rfl) (by first | exact sg_len _ | exact cx_len _ | exact d_len _ _ _ | exact de_len _ | exact rf_len _ | (simp only [sg_len, cx_len, d_len, de_len, rf_len]) | rfl) ?_))
   | ((refine z_sti 4 rfl rfl ?_; refine o_storeb4 rfl tabOk rfl rfl rfl (by first | exact sg_len _ | exact cx_len _ | exact d_len _ _ _ | exact de_len _ | exact rf_len _ | (simp only [sg_len, cx_len, d_len, de_len, rf_len]) | rfl) (by first | exact sg_one _ | exact cx_one _ | exact d_one _ _ _ | exact de_one _ | exact rf_one _ | rfl) (by first | exact sg_len _ | exact cx_len _ | exact d_len _ _ _ | exact de_len _ | exact rf_len _ | (simp only [sg_len, cx_len, d_len, de_len, rf_len]) | rfl) ?_))
   | ((refine z_sti 5 rfl rfl ?_; refine o_storeb5 rfl tabOk rfl rfl rfl (by first | exact sg_len _ | exact cx_len _ | exact d_len _ _ _ | exact de_len _ | exact rf_len _ | (simp only [sg_len, cx_len, d_len, de_len, rf_len]) | rfl) (by first | exact sg_one _ | exact cx_one _ | exact d_one _ _ _ | exact de_one _ | exact rf_one _ | rfl) (by first | exact sg_len _ | exact cx_len _ | exact d_len _ _ _ | exact de_len _ | exact rf_len _ | (simp only [sg_len, cx_len, d_len, de_len, rf_len]) | rfl) ?_))
   | ((refine z_sti 6 rfl rfl ?_; refine o_storeb6 rfl tabOk rfl rfl rfl (by first | exact sg_len _ | exact cx_len _ | exact d_len _ _ _ | exact de_len _ | exact rf_len _ | (simp only [sg_len, cx_len, d_len, de_len, rf_len]) | rfl) (by first | exact sg_one _ | exact cx_one _ | exact d_one _ _ _ | exact de_one _ | exact rf_one _ | rfl) (by first | exact sg_len _ | exact cx_len _ | exact d_len _ _ _ | exact de_len _ | exact rf_len _ | (simp only [sg_len, cx_len, d_len, de_len, rf_len]) | rfl) ?_)))
   | (refine z_st1 rfl rfl ?_; first
   | refine o_store rfl tabOk rfl rfl rfl rfl rfl (by first | exact de_k _ | exact de_s _ | exact de_a _ | exact d_k _ _ _ | exact d_n _ _ _ | rfl) (by first | rfl) ?_
   | ((refine z_sti 1 rfl rfl ?_; refine o_store1 rfl tabOk rfl rfl rfl rfl rfl (by first | exact de_k _ | exact de_s _ | exact de_a _ | exact d_k _ _ _ | exact d_n _ _ _ | rfl) (by first | rfl) ?_))
   | ((refine z_sti 2 rfl rfl ?_; refine o_store2 rfl tabOk rfl rfl rfl rfl rfl (by first | exact de_k _ | exact de_s _ | exact de_a _ | exact d_k _ _ _ | exact d_n _ _ _ | rfl) (by first | rfl) ?_))
   | ((refine z_sti 3 rfl rfl ?_; refine o_store3 rfl tabOk rfl rfl rfl rfl rfl (by first | exact de_k _ | exact de_s _ | exact de_a _ | exact d_k _ _ _ | exact d_n _ _ _ | rfl) (by first | rfl) ?_))
   | ((refine z_sti 4 rfl rfl ?_; refine o_store4 rfl tabOk rfl rfl rfl rfl rfl (by first | exact de_k _ | exact de_s _ | exact de_a _ | exact d_k _ _ _ | exact d_n _ _ _ | rfl) (by first | rfl) ?_))
   | ((refine z_sti 5 rfl rfl ?_; refine o_store5 rfl tabOk rfl rfl rfl rfl rfl (by first | exact de_k _ | exact de_s _ | exact de_a _ | exact d_k _ _ _ | exact d_n _ _ _ | rfl) (by first | rfl) ?_))
   | ((refine z_sti 6 rfl rfl ?_; refine o_store6 rfl tabOk rfl rfl rfl rfl rfl (by first | exact de_k _ | exact de_s _ | exact de_a _ | exact d_k _ _ _ | exact d_n _ _ _ | rfl) (by first | rfl) ?_))))
   | (refine z_iscall ?_; first
   | ((refine z_iscallf 17 ?_; refine z_front rfl 5 rfl ?_; refine o_call Tryd.func17 rfl rfl rfl (rret_c _ _) (List.Perm.refl _) (by decide) fun _ _ => ?_))
   | ((refine z_iscallf 9 ?_; refine o_fn rfl Tryd.func9 rfl rfl rfl (raise_fn _ _) (by decide) ?_))
   | ((refine z_iscallf 11 ?_; refine o_fn rfl Tryd.func11 rfl rfl rfl (ret_fn _) (by decide) ?_))
   | ((refine z_iscallf 18 ?_; refine o_fn rfl Tryd.func18 rfl rfl rfl (fork_fn _) (by decide) ?_))
   | ((refine z_iscallf 19 ?_; refine o_fn rfl Tryd.func19 rfl rfl rfl (exec_fn _) (by decide) ?_)))
   | (refine z_ispick ?_; first
   | (refine o_pick1 rfl (by first | with_reducible rfl | with_reducible assumption | ((with_reducible refine decide_eq_true ?_); first | with_reducible rfl | with_reducible assumption | omega)) rfl (by decide) ?_)
   | (refine o_pick0 rfl (by first | with_reducible rfl | with_reducible assumption | ((with_reducible refine decide_eq_false ?_); first | with_reducible assumption | omega)) rfl (by decide) ?_)
   | (refine o_pick1 rfl (by first | (simp only [Bool.not_eq_true', decide_eq_false_iff_not]; omega) | (with_reducible assumption) | (rw [decide_eq_false] <;> (first | omega | with_reducible rfl)) | (rw [decide_eq_true] <;> (first | omega | with_reducible rfl)) | (simp; done) | (simp; omega)) rfl (by decide) ?_)
   | (refine o_pick0 rfl (by first | (simp only [Bool.not_eq_false', decide_eq_true_eq]; omega) | (with_reducible assumption) | (rw [decide_eq_false] <;> (first | omega | with_reducible rfl)) | (rw [decide_eq_true] <;> (first | omega | with_reducible rfl)) | (simp; done) | (simp; omega)) rfl (by decide) ?_))
   | refine o_move rfl (by decide) ?_
   | refine o_assign rfl (by decide) ?_
   | refine o_nil rfl (by decide) ?_
   | refine o_extract rfl rfl (by decide) ?_
   | refine o_not rfl (by decide) ?_
   | refine o_field0 tabOk rfl rfl rfl rfl rfl (by decide) ?_
   | refine o_field tabOk rfl rfl rfl rfl rfl (by decide) ?_
   | refine o_conv tabOk rfl rfl rfl (by decide) ?_))
set_option maxHeartbeats 8000000 in
theorem does_none {s : Sg} {r : Rf} (h : Re s r) (b : Nat) (d : De) (fr : List Chunk) (hk : d.k < 0 ∨ 9 < d.k) : DoesDeed s r b d fr := by
  refine ⟨(s, r), h, ?_⟩
  intro w hw
  refine f_enter Tryd.func6 rfl Tryd.ntmps6 rfl hw ?_
  repeat' (first
   | (refine s_is ?_; first
   | (refine s_isret ?_; first
   | (exact f_r2 rfl (res_c tabOk rfl rfl rfl 0 rfl (sg_len _)) (res_t (by show some (Value.bool _) = some (Value.bool true); simp)) () trivial rfl (fun w h => ((h.sel 4 [3, 0, 1, 2] (by decide)).mask [true, false, false, false]))))
   | (refine s_isw ?_; first
   | refine c_seq ?_
   | refine c_block ?_
   | refine c_region ?_
   | refine c_mixed mixed (by kernel_rfl) ?_
   | refine c_skip ?_
   | refine c_ret ?_
   | refine c_exit ?_
   | (refine s_iscond ?_; first
   | (refine c_true rfl (by first | with_reducible rfl | with_reducible assumption | ((with_reducible refine decide_eq_true ?_); first | with_reducible rfl | with_reducible assumption | omega)) ?_)
   | (refine c_false rfl (by first | with_reducible rfl | with_reducible assumption | ((with_reducible refine decide_eq_false ?_); first | with_reducible assumption | omega)) ?_)
   | (refine c_true rfl (by first | (simp only [Bool.not_eq_true', decide_eq_false_iff_not]; omega) | (with_reducible assumption) | (rw [decide_eq_false] <;> (first | omega | with_reducible rfl)) | (rw [decide_eq_true] <;> (first | omega | with_reducible rfl)) | (simp; done) | (simp; omega)) ?_)
   | (refine c_false rfl (by first | (simp only [Bool.not_eq_false', decide_eq_true_eq]; omega) | (with_reducible assumption) | (rw [decide_eq_false] <;> (first | omega | with_reducible rfl)) | (rw [decide_eq_true] <;> (first | omega | with_reducible rfl)) | (simp; done) | (simp; omega)) ?_)
   | refine c_cond rfl (fun hc => ?_) (fun hc => ?_)
   | refine c_condb rfl (fun hc => ?_) (fun hc => ?_)))
   | refine x_then ?_
   | refine x_then_ret ?_
   | refine x_then_exit ?_
   | refine x_block _ ?_
   | refine x_block_ret _ ?_
   | refine x_block_exit _ ?_
   | refine x_block_past (by decide) ?_
   | refine z_tailm ?_)
   | (refine z_isg1 ?_; first
   | refine z_skipu (by decide) rfl rfl ?_
   | (refine z_want1 rfl rfl (by first | with_reducible rfl | with_reducible assumption | ((with_reducible refine decide_eq_true ?_); first | with_reducible rfl | with_reducible assumption | omega)) ?_)
   | (refine z_skip1 (by decide) rfl rfl (by first | with_reducible rfl | with_reducible assumption | ((with_reducible refine decide_eq_false ?_); first | with_reducible assumption | omega)) ?_)
   | (refine z_want1 rfl rfl (by first | (simp only [Bool.not_eq_true', decide_eq_false_iff_not]; omega) | (with_reducible assumption) | (rw [decide_eq_false] <;> (first | omega | with_reducible rfl)) | (rw [decide_eq_true] <;> (first | omega | with_reducible rfl)) | (simp; done) | (simp; omega)) ?_)
   | (refine z_skip1 (by decide) rfl rfl (by first | (simp only [Bool.not_eq_false', decide_eq_true_eq]; omega) | (with_reducible assumption) | (rw [decide_eq_false] <;> (first | omega | with_reducible rfl)) | (rw [decide_eq_true] <;> (first | omega | with_reducible rfl)) | (simp; done) | (simp; omega)) ?_)
   | refine z_guard1 (by decide) rfl rfl (fun hc => ?_) (fun hc => ?_)
   | refine z_guardb (by decide) rfl rfl (fun hc => ?_) (fun hc => ?_))
   | (refine z_isnil ?_; first
   | refine z_keep1 ?_
   | refine z_keep2 ?_
   | refine z_list ?_
   | refine z_mixed ?_
   | refine z_mono0 ?_
   | refine z_mono1 (by decide) fun g => ?_
   | refine z_mono2 (by decide) (by decide) fun g g' => ?_
   | refine z_mixedx ?_
   | refine z_quiet ?_)
   | (refine z_isop ?_; first
   | refine o_boxa rfl rfl (by decide) fun g => ?_
   | refine o_alloca (e := 30) (vs := Sg.zero.cs) rfl (by kernel_rfl) (by decide) fun g => ?_
   | refine o_alloca (e := 26) (vs := Cx.zero.cs) rfl (by kernel_rfl) (by decide) fun g => ?_
   | refine o_alloca (e := 40) (vs := dCs 0 0 Cx.zero) rfl (by kernel_rfl) (by decide) fun g => ?_
   | refine o_buildf (t := 40) (zs := dCs 0 0 Cx.zero) tabOk rfl rfl (by kernel_rfl) rfl (d_fill _ _ _) (by decide) ?_
   | (refine z_isbin ?_; first
   | refine o_eqa cmp40 rfl rfl (d_typed _ _ _) (d_typed _ _ _) (by decide) ?_
   | refine o_eqa cmp26 rfl rfl (cx_typed _) (cx_typed _) (by decide) ?_
   | (refine z_isb .eql ?_; first
   | refine o_eq rfl rfl (by decide) ?_
   | refine o_beq tabOk rfl rfl rfl (by decide) ?_
   | refine o_peq tabOk rfl rfl (by decide) ?_))
   | (refine z_isload ?_; first
   | refine o_loadp tabOk rfl rfl rfl 1 rfl (cx_len _) (de_c _) (by decide) ?_
   | refine o_loadp tabOk rfl rfl rfl 3 rfl (cx_len _) (de_c _) (by decide) ?_
   | (refine z_ld1 tabOk rfl rfl ?_; first
   | refine o_loadm tabOk rfl rfl rfl (by repeat' (first | exact List.mem_cons_self | apply List.mem_cons_of_mem)) (by first | exact de_k _ | exact de_s _ | exact de_a _ | exact d_k _ _ _ | exact d_n _ _ _ | rfl) (by decide) ?_
   | refine o_loads tabOk (by first | assumption | exact Rds.cons _ (by assumption) | exact Rds.cons _ (Rds.cons _ (by assumption)) | exact own_rds 0 rfl | exact own_rds 1 rfl | exact own_rds 2 rfl) rfl rfl rfl (by first | exact de_k _ | exact de_s _ | exact de_a _ | exact d_k _ _ _ | exact d_n _ _ _ | rfl) (by decide) ?_)
   | (refine z_ldw tabOk rfl rfl ?_; first
   | refine o_loadwm tabOk rfl rfl rfl (by repeat' (first | exact List.mem_cons_self | apply List.mem_cons_of_mem)) (by first | exact sg_len _ | exact cx_len _ | exact d_len _ _ _ | exact de_len _ | exact rf_len _ | (simp only [sg_len, cx_len, d_len, de_len, rf_len]) | rfl) (by decide) ?_))
   | (refine z_isstore ?_; first
   | refine o_storebk 0 tabOk rfl rfl rfl rfl (by first | exact sg_len _ | exact cx_len _ | exact d_len _ _ _ | exact de_len _ | exact rf_len _ | (simp only [sg_len, cx_len, d_len, de_len, rf_len]) | rfl) (by first | exact sg_one _ | exact cx_one _ | exact d_one _ _ _ | exact de_one _ | exact rf_one _ | rfl) (by first | exact sg_len _ | exact cx_len _ | exact d_len _ _ _ | exact de_len _ | exact rf_len _ | (simp only [sg_len, cx_len, d_len, de_len, rf_len]) | rfl) ?_
   | refine o_storebk 1 tabOk rfl rfl rfl rfl (by first | exact sg_len _ | exact cx_len _ | exact d_len _ _ _ | exact de_len _ | exact rf_len _ | (simp only [sg_len, cx_len, d_len, de_len, rf_len]) | rfl) (by first | exact sg_one _ | exact cx_one _ | exact d_one _ _ _ | exact de_one _ | exact rf_one _ | rfl) (by first | exact sg_len _ | exact cx_len _ | exact d_len _ _ _ | exact de_len _ | exact rf_len _ | (simp only [sg_len, cx_len, d_len, de_len, rf_len]) | rfl) ?_
   | (refine z_stw rfl ?_; first
   | ((refine z_sti 0 rfl rfl ?_; refine o_storeb0 rfl tabOk rfl rfl rfl (by first | exact sg_len _ | exact cx_len _ | exact d_len _ _ _ | exact de_len _ | exact rf_len _ | (simp only [sg_len, cx_len, d_len, de_len, rf_len]) | rfl) (by first | exact sg_one _ | exact cx_one _ | exact d_one _ _ _ | exact de_one _ | exact rf_one _ | rfl) (by first | exact sg_len _ | exact cx_len _ | exact d_len _ _ _ | exact de_len _ | exact rf_len _ | (simp only [sg_len, cx_len, d_len, de_len, rf_len]) | rfl) ?_))
   | ((refine z_sti 1 rfl rfl ?_; refine o_storeb1 rfl tabOk rfl rfl rfl (by first | exact sg_len _ | exact cx_len _ | exact d_len _ _ _ | exact de_len _ | exact rf_len _ | (simp only [sg_len, cx_len, d_len, de_len, rf_len]) | rfl) (by first | exact sg_one _ | exact cx_one _ | exact d_one _ _ _ | exact de_one _ | exact rf_one _ | rfl) (by first | exact sg_len _ | exact cx_len _ | exact d_len _ _ _ | exact de_len _ | exact rf_len _ | (simp only [sg_len, cx_len, d_len, de_len, rf_len]) | rfl) ?_))
   | ((refine z_sti 2 rfl rfl ?_; refine o_storeb2 rfl tabOk rfl rfl rfl (by first | exact sg_len _ | exact cx_len _ | exact d_len _ _ _ | exact de_len _ | exact rf_len _ | (simp only [sg_len, cx_len, d_len, de_len, rf_len]) | rfl) (by first | exact sg_one _ | exact cx_one _ | exact d_one _ _ _ | exact de_one _ | exact rf_one _ | rfl) (by first | exact sg_len _ | exact cx_len _ | exact d_len _ _ _ | exact de_len _ | exact rf_len _ | (simp only [sg_len, cx_len, d_len, de_len, rf_len]) | rfl) ?_))
   | ((refine z_sti 3 rfl rfl ?_; refine o_storeb3 rfl tabOk rfl rfl rfl (by first | exact sg_len _ | exact cx_len _ | exact d_len _ _ _ | exact de_len _ | exact rf_len _ | (simp only [sg_len, cx_len, d_len, de_len, rf_len]) | rfl) (by first | exact sg_one _ | exact cx_one _ | exact d_one _ _ _ | exact de_one _ | exact rf_one _ | rfl) (by first | exact sg_len _ | exact cx_len _ | exact d_len _ _ _ | exact de_len _ | exact rf_len _ | (simp only [sg_len, cx_len, d_len, de_len, rf_len]) | rfl) ?_))
   | ((refine z_sti 4 rfl rfl ?_; refine o_storeb4 rfl tabOk rfl rfl rfl (by first | exact sg_len _ | exact cx_len _ | exact d_len _ _ _ | exact de_len _ | exact rf_len _ | (simp only [sg_len, cx_len, d_len, de_len, rf_len]) | rfl) (by first | exact sg_one _ | exact cx_one _ | exact d_one _ _ _ | exact de_one _ | exact rf_one _ | rfl) (by first | exact sg_len _ | exact cx_len _ | exact d_len _ _ _ | exact de_len _ | exact rf_len _ | (simp only [sg_len, cx_len, d_len, de_len, rf_len]) | rfl) ?_))
   | ((refine z_sti 5 rfl rfl ?_; refine o_storeb5 rfl tabOk rfl rfl rfl (by first | exact sg_len _ | exact cx_len _ | exact d_len _ _ _ | exact de_len _ | exact rf_len _ | (simp only [sg_len, cx_len, d_len, de_len, rf_len]) | rfl) (by first | exact sg_one _ | exact cx_one _ | exact d_one _ _ _ | exact de_one _ | exact rf_one _ | rfl) (by first | exact sg_len _ | exact cx_len _ | exact d_len _ _ _ | exact de_len _ | exact rf_len _ | (simp only [sg_len, cx_len, d_len, de_len, rf_len]) | rfl) ?_))
   | ((refine z_sti 6 rfl rfl ?_; refine o_storeb6 rfl tabOk rfl rfl rfl (by first | exact sg_len _ | exact cx_len _ | exact d_len _ _ _ | exact de_len _ | exact rf_len _ | (simp only [sg_len, cx_len, d_len, de_len, rf_len]) | rfl) (by first | exact sg_one _ | exact cx_one _ | exact d_one _ _ _ | exact de_one _ | exact rf_one _ | rfl) (by first | exact sg_len _ | exact cx_len _ | exact d_len _ _ _ | exact de_len _ | exact rf_len _ | (simp only [sg_len, cx_len, d_len, de_len, rf_len]) | rfl) ?_)))
   | (refine z_st1 rfl rfl ?_; first
   | refine o_store rfl tabOk rfl rfl rfl rfl rfl (by first | exact de_k _ | exact de_s _ | exact de_a _ | exact d_k _ _ _ | exact d_n _ _ _ | rfl) (by first | rfl) ?_
   | ((refine z_sti 1 rfl rfl ?_; refine o_store1 rfl tabOk rfl rfl rfl rfl rfl (by first | exact de_k _ | exact de_s _ | exact de_a _ | exact d_k _ _ _ | exact d_n _ _ _ | rfl) (by first | rfl) ?_))
   | ((refine z_sti 2 rfl rfl ?_; refine o_store2 rfl tabOk rfl rfl rfl rfl rfl (by first | exact de_k _ | exact de_s _ | exact de_a _ | exact d_k _ _ _ | exact d_n _ _ _ | rfl) (by first | rfl) ?_))
   | ((refine z_sti 3 rfl rfl ?_; refine o_store3 rfl tabOk rfl rfl rfl rfl rfl (by first | exact de_k _ | exact de_s _ | exact de_a _ | exact d_k _ _ _ | exact d_n _ _ _ | rfl) (by first | rfl) ?_))
   | ((refine z_sti 4 rfl rfl ?_; refine o_store4 rfl tabOk rfl rfl rfl rfl rfl (by first | exact de_k _ | exact de_s _ | exact de_a _ | exact d_k _ _ _ | exact d_n _ _ _ | rfl) (by first | rfl) ?_))
   | ((refine z_sti 5 rfl rfl ?_; refine o_store5 rfl tabOk rfl rfl rfl rfl rfl (by first | exact de_k _ | exact de_s _ | exact de_a _ | exact d_k _ _ _ | exact d_n _ _ _ | rfl) (by first | rfl) ?_))
   | ((refine z_sti 6 rfl rfl ?_; refine o_store6 rfl tabOk rfl rfl rfl rfl rfl (by first | exact de_k _ | exact de_s _ | exact de_a _ | exact d_k _ _ _ | exact d_n _ _ _ | rfl) (by first | rfl) ?_))))
   | (refine z_iscall ?_; first
   | ((refine z_iscallf 9 ?_; refine o_fn rfl Tryd.func9 rfl rfl rfl (raise_fn _ _) (by decide) ?_))
   | ((refine z_iscallf 11 ?_; refine o_fn rfl Tryd.func11 rfl rfl rfl (ret_fn _) (by decide) ?_))
   | ((refine z_iscallf 18 ?_; refine o_fn rfl Tryd.func18 rfl rfl rfl (fork_fn _) (by decide) ?_))
   | ((refine z_iscallf 19 ?_; refine o_fn rfl Tryd.func19 rfl rfl rfl (exec_fn _) (by decide) ?_)))
   | (refine z_ispick ?_; first
   | (refine o_pick1 rfl (by first | with_reducible rfl | with_reducible assumption | ((with_reducible refine decide_eq_true ?_); first | with_reducible rfl | with_reducible assumption | omega)) rfl (by decide) ?_)
   | (refine o_pick0 rfl (by first | with_reducible rfl | with_reducible assumption | ((with_reducible refine decide_eq_false ?_); first | with_reducible assumption | omega)) rfl (by decide) ?_)
   | (refine o_pick1 rfl (by first | (simp only [Bool.not_eq_true', decide_eq_false_iff_not]; omega) | (with_reducible assumption) | (rw [decide_eq_false] <;> (first | omega | with_reducible rfl)) | (rw [decide_eq_true] <;> (first | omega | with_reducible rfl)) | (simp; done) | (simp; omega)) rfl (by decide) ?_)
   | (refine o_pick0 rfl (by first | (simp only [Bool.not_eq_false', decide_eq_true_eq]; omega) | (with_reducible assumption) | (rw [decide_eq_false] <;> (first | omega | with_reducible rfl)) | (rw [decide_eq_true] <;> (first | omega | with_reducible rfl)) | (simp; done) | (simp; omega)) rfl (by decide) ?_))
   | refine o_move rfl (by decide) ?_
   | refine o_assign rfl (by decide) ?_
   | refine o_nil rfl (by decide) ?_
   | refine o_extract rfl rfl (by decide) ?_
   | refine o_not rfl (by decide) ?_
   | refine o_field0 tabOk rfl rfl rfl rfl rfl (by decide) ?_
   | refine o_field tabOk rfl rfl rfl rfl rfl (by decide) ?_
   | refine o_conv tabOk rfl rfl rfl (by decide) ?_))
set_option maxHeartbeats 8000000 in
theorem does_fork {s : Sg} {r : Rf} (h : Re s r) (b : Nat) (d : De) (fr : List Chunk) (hk : d.k = 8) : DoesDeed s r b d fr := by
  refine ⟨(({ s with w := 0 } : Sg), ({ r with g := fun _ => false } : Rf)), (re_fork h), ?_⟩
  intro w hw
  refine f_enter Tryd.func6 rfl Tryd.ntmps6 rfl hw ?_
  repeat' (first
   | (refine s_is ?_; first
   | (refine s_isret ?_; first
   | (exact f_r2 rfl (res_c tabOk rfl rfl rfl 0 rfl (sg_len _)) (res_t (by show some (Value.bool _) = some (Value.bool true); simp)) () trivial rfl (fun w h => ((h.sel 4 [3, 0, 1, 2] (by decide)).mask [true, false, false, false]))))
   | (refine s_isw ?_; first
   | refine c_seq ?_
   | refine c_block ?_
   | refine c_region ?_
   | refine c_mixed mixed (by kernel_rfl) ?_
   | refine c_skip ?_
   | refine c_ret ?_
   | refine c_exit ?_
   | (refine s_iscond ?_; first
   | (refine c_true rfl (by first | with_reducible rfl | with_reducible assumption | ((with_reducible refine decide_eq_true ?_); first | with_reducible rfl | with_reducible assumption | omega)) ?_)
   | (refine c_false rfl (by first | with_reducible rfl | with_reducible assumption | ((with_reducible refine decide_eq_false ?_); first | with_reducible assumption | omega)) ?_)
   | (refine c_true rfl (by first | (simp only [Bool.not_eq_true', decide_eq_false_iff_not]; omega) | (with_reducible assumption) | (rw [decide_eq_false] <;> (first | omega | with_reducible rfl)) | (rw [decide_eq_true] <;> (first | omega | with_reducible rfl)) | (simp; done) | (simp; omega)) ?_)
   | (refine c_false rfl (by first | (simp only [Bool.not_eq_false', decide_eq_true_eq]; omega) | (with_reducible assumption) | (rw [decide_eq_false] <;> (first | omega | with_reducible rfl)) | (rw [decide_eq_true] <;> (first | omega | with_reducible rfl)) | (simp; done) | (simp; omega)) ?_)
   | refine c_cond rfl (fun hc => ?_) (fun hc => ?_)
   | refine c_condb rfl (fun hc => ?_) (fun hc => ?_)))
   | refine x_then ?_
   | refine x_then_ret ?_
   | refine x_then_exit ?_
   | refine x_block _ ?_
   | refine x_block_ret _ ?_
   | refine x_block_exit _ ?_
   | refine x_block_past (by decide) ?_
   | refine z_tailm ?_)
   | (refine z_isg1 ?_; first
   | refine z_skipu (by decide) rfl rfl ?_
   | (refine z_want1 rfl rfl (by first | with_reducible rfl | with_reducible assumption | ((with_reducible refine decide_eq_true ?_); first | with_reducible rfl | with_reducible assumption | omega)) ?_)
   | (refine z_skip1 (by decide) rfl rfl (by first | with_reducible rfl | with_reducible assumption | ((with_reducible refine decide_eq_false ?_); first | with_reducible assumption | omega)) ?_)
   | (refine z_want1 rfl rfl (by first | (simp only [Bool.not_eq_true', decide_eq_false_iff_not]; omega) | (with_reducible assumption) | (rw [decide_eq_false] <;> (first | omega | with_reducible rfl)) | (rw [decide_eq_true] <;> (first | omega | with_reducible rfl)) | (simp; done) | (simp; omega)) ?_)
   | (refine z_skip1 (by decide) rfl rfl (by first | (simp only [Bool.not_eq_false', decide_eq_true_eq]; omega) | (with_reducible assumption) | (rw [decide_eq_false] <;> (first | omega | with_reducible rfl)) | (rw [decide_eq_true] <;> (first | omega | with_reducible rfl)) | (simp; done) | (simp; omega)) ?_)
   | refine z_guard1 (by decide) rfl rfl (fun hc => ?_) (fun hc => ?_)
   | refine z_guardb (by decide) rfl rfl (fun hc => ?_) (fun hc => ?_))
   | (refine z_isnil ?_; first
   | refine z_keep1 ?_
   | refine z_keep2 ?_
   | refine z_list ?_
   | refine z_mixed ?_
   | refine z_mono0 ?_
   | refine z_mono1 (by decide) fun g => ?_
   | refine z_mono2 (by decide) (by decide) fun g g' => ?_
   | refine z_mixedx ?_
   | refine z_quiet ?_)
   | (refine z_isop ?_; first
   | refine o_build (t := 32) (v := .agg (boCs fun _ => false).toArray) rfl (fun _ => by kernel_rfl) (by decide) ?_
   | refine o_boxa rfl rfl (by decide) fun g => ?_
   | refine o_alloca (e := 30) (vs := Sg.zero.cs) rfl (by kernel_rfl) (by decide) fun g => ?_
   | refine o_alloca (e := 26) (vs := Cx.zero.cs) rfl (by kernel_rfl) (by decide) fun g => ?_
   | refine o_alloca (e := 40) (vs := dCs 0 0 Cx.zero) rfl (by kernel_rfl) (by decide) fun g => ?_
   | refine o_buildf (t := 40) (zs := dCs 0 0 Cx.zero) tabOk rfl rfl (by kernel_rfl) rfl (d_fill _ _ _) (by decide) ?_
   | (refine z_isbin ?_; first
   | refine o_eqa cmp40 rfl rfl (d_typed _ _ _) (d_typed _ _ _) (by decide) ?_
   | refine o_eqa cmp26 rfl rfl (cx_typed _) (cx_typed _) (by decide) ?_
   | (refine z_isb .eql ?_; first
   | refine o_eq rfl rfl (by decide) ?_
   | refine o_beq tabOk rfl rfl rfl (by decide) ?_
   | refine o_peq tabOk rfl rfl (by decide) ?_))
   | (refine z_isload ?_; first
   | refine o_loadp tabOk rfl rfl rfl 1 rfl (cx_len _) (de_c _) (by decide) ?_
   | refine o_loadp tabOk rfl rfl rfl 3 rfl (cx_len _) (de_c _) (by decide) ?_
   | (refine z_ld1 tabOk rfl rfl ?_; first
   | refine o_loadm tabOk rfl rfl rfl (by repeat' (first | exact List.mem_cons_self | apply List.mem_cons_of_mem)) (by first | exact de_k _ | exact de_s _ | exact de_a _ | exact d_k _ _ _ | exact d_n _ _ _ | rfl) (by decide) ?_
   | refine o_loads tabOk (by first | assumption | exact Rds.cons _ (by assumption) | exact Rds.cons _ (Rds.cons _ (by assumption)) | exact own_rds 0 rfl | exact own_rds 1 rfl | exact own_rds 2 rfl) rfl rfl rfl (by first | exact de_k _ | exact de_s _ | exact de_a _ | exact d_k _ _ _ | exact d_n _ _ _ | rfl) (by decide) ?_)
   | (refine z_ldw tabOk rfl rfl ?_; first
   | refine o_loadwm tabOk rfl rfl rfl (by repeat' (first | exact List.mem_cons_self | apply List.mem_cons_of_mem)) (by first | exact sg_len _ | exact cx_len _ | exact d_len _ _ _ | exact de_len _ | exact rf_len _ | (simp only [sg_len, cx_len, d_len, de_len, rf_len]) | rfl) (by decide) ?_))
   | (refine z_isstore ?_; first
   | (refine o_storew_at rfl 3 tabOk rfl rfl rfl rfl (bo_len _) (bo_one _) (by rw [rf_len, bo_len]; decide) (rf_set_gs _ _) ?_)
   | refine o_storebk 0 tabOk rfl rfl rfl rfl (by first | exact sg_len _ | exact cx_len _ | exact d_len _ _ _ | exact de_len _ | exact rf_len _ | (simp only [sg_len, cx_len, d_len, de_len, rf_len]) | rfl) (by first | exact sg_one _ | exact cx_one _ | exact d_one _ _ _ | exact de_one _ | exact rf_one _ | rfl) (by first | exact sg_len _ | exact cx_len _ | exact d_len _ _ _ | exact de_len _ | exact rf_len _ | (simp only [sg_len, cx_len, d_len, de_len, rf_len]) | rfl) ?_
   | refine o_storebk 1 tabOk rfl rfl rfl rfl (by first | exact sg_len _ | exact cx_len _ | exact d_len _ _ _ | exact de_len _ | exact rf_len _ | (simp only [sg_len, cx_len, d_len, de_len, rf_len]) | rfl) (by first | exact sg_one _ | exact cx_one _ | exact d_one _ _ _ | exact de_one _ | exact rf_one _ | rfl) (by first | exact sg_len _ | exact cx_len _ | exact d_len _ _ _ | exact de_len _ | exact rf_len _ | (simp only [sg_len, cx_len, d_len, de_len, rf_len]) | rfl) ?_
   | (refine z_stw rfl ?_; first
   | ((refine z_sti 0 rfl rfl ?_; refine o_storeb0 rfl tabOk rfl rfl rfl (by first | exact sg_len _ | exact cx_len _ | exact d_len _ _ _ | exact de_len _ | exact rf_len _ | (simp only [sg_len, cx_len, d_len, de_len, rf_len]) | rfl) (by first | exact sg_one _ | exact cx_one _ | exact d_one _ _ _ | exact de_one _ | exact rf_one _ | rfl) (by first | exact sg_len _ | exact cx_len _ | exact d_len _ _ _ | exact de_len _ | exact rf_len _ | (simp only [sg_len, cx_len, d_len, de_len, rf_len]) | rfl) ?_))
   | ((refine z_sti 1 rfl rfl ?_; refine o_storeb1 rfl tabOk rfl rfl rfl (by first | exact sg_len _ | exact cx_len _ | exact d_len _ _ _ | exact de_len _ | exact rf_len _ | (simp only [sg_len, cx_len, d_len, de_len, rf_len]) | rfl) (by first | exact sg_one _ | exact cx_one _ | exact d_one _ _ _ | exact de_one _ | exact rf_one _ | rfl) (by first | exact sg_len _ | exact cx_len _ | exact d_len _ _ _ | exact de_len _ | exact rf_len _ | (simp only [sg_len, cx_len, d_len, de_len, rf_len]) | rfl) ?_))
   | ((refine z_sti 2 rfl rfl ?_; refine o_storeb2 rfl tabOk rfl rfl rfl (by first | exact sg_len _ | exact cx_len _ | exact d_len _ _ _ | exact de_len _ | exact rf_len _ | (simp only [sg_len, cx_len, d_len, de_len, rf_len]) | rfl) (by first | exact sg_one _ | exact cx_one _ | exact d_one _ _ _ | exact de_one _ | exact rf_one _ | rfl) (by first | exact sg_len _ | exact cx_len _ | exact d_len _ _ _ | exact de_len _ | exact rf_len _ | (simp only [sg_len, cx_len, d_len, de_len, rf_len]) | rfl) ?_))
   | ((refine z_sti 3 rfl rfl ?_; refine o_storeb3 rfl tabOk rfl rfl rfl (by first | exact sg_len _ | exact cx_len _ | exact d_len _ _ _ | exact de_len _ | exact rf_len _ | (simp only [sg_len, cx_len, d_len, de_len, rf_len]) | rfl) (by first | exact sg_one _ | exact cx_one _ | exact d_one _ _ _ | exact de_one _ | exact rf_one _ | rfl) (by first | exact sg_len _ | exact cx_len _ | exact d_len _ _ _ | exact de_len _ | exact rf_len _ | (simp only [sg_len, cx_len, d_len, de_len, rf_len]) | rfl) ?_))
   | ((refine z_sti 4 rfl rfl ?_; refine o_storeb4 rfl tabOk rfl rfl rfl (by first | exact sg_len _ | exact cx_len _ | exact d_len _ _ _ | exact de_len _ | exact rf_len _ | (simp only [sg_len, cx_len, d_len, de_len, rf_len]) | rfl) (by first | exact sg_one _ | exact cx_one _ | exact d_one _ _ _ | exact de_one _ | exact rf_one _ | rfl) (by first | exact sg_len _ | exact cx_len _ | exact d_len _ _ _ | exact de_len _ | exact rf_len _ | (simp only [sg_len, cx_len, d_len, de_len, rf_len]) | rfl) ?_))
   | ((refine z_sti 5 rfl rfl ?_; refine o_storeb5 rfl tabOk rfl rfl rfl (by first | exact sg_len _ | exact cx_len _ | exact d_len _ _ _ | exact de_len _ | exact rf_len _ | (simp only [sg_len, cx_len, d_len, de_len, rf_len]) | rfl) (by first | exact sg_one _ | exact cx_one _ | exact d_one _ _ _ | exact de_one _ | exact rf_one _ | rfl) (by first | exact sg_len _ | exact cx_len _ | exact d_len _ _ _ | exact de_len _ | exact rf_len _ | (simp only [sg_len, cx_len, d_len, de_len, rf_len]) | rfl) ?_))
   | ((refine z_sti 6 rfl rfl ?_; refine o_storeb6 rfl tabOk rfl rfl rfl (by first | exact sg_len _ | exact cx_len _ | exact d_len _ _ _ | exact de_len _ | exact rf_len _ | (simp only [sg_len, cx_len, d_len, de_len, rf_len]) | rfl) (by first | exact sg_one _ | exact cx_one _ | exact d_one _ _ _ | exact de_one _ | exact rf_one _ | rfl) (by first | exact sg_len _ | exact cx_len _ | exact d_len _ _ _ | exact de_len _ | exact rf_len _ | (simp only [sg_len, cx_len, d_len, de_len, rf_len]) | rfl) ?_)))
   | (refine z_st1 rfl rfl ?_; first
   | refine o_store rfl tabOk rfl rfl rfl rfl rfl (by first | exact de_k _ | exact de_s _ | exact de_a _ | exact d_k _ _ _ | exact d_n _ _ _ | rfl) (by first | rfl) ?_
   | ((refine z_sti 1 rfl rfl ?_; refine o_store1 rfl tabOk rfl rfl rfl rfl rfl (by first | exact de_k _ | exact de_s _ | exact de_a _ | exact d_k _ _ _ | exact d_n _ _ _ | rfl) (by first | rfl) ?_))
   | ((refine z_sti 2 rfl rfl ?_; refine o_store2 rfl tabOk rfl rfl rfl rfl rfl (by first | exact de_k _ | exact de_s _ | exact de_a _ | exact d_k _ _ _ | exact d_n _ _ _ | rfl) (by first | rfl) ?_))
   | ((refine z_sti 3 rfl rfl ?_; refine o_store3 rfl tabOk rfl rfl rfl rfl rfl (by first | exact de_k _ | exact de_s _ | exact de_a _ | exact d_k _ _ _ | exact d_n _ _ _ | rfl) (by first | rfl) ?_))
   | ((refine z_sti 4 rfl rfl ?_; refine o_store4 rfl tabOk rfl rfl rfl rfl rfl (by first | exact de_k _ | exact de_s _ | exact de_a _ | exact d_k _ _ _ | exact d_n _ _ _ | rfl) (by first | rfl) ?_))
   | ((refine z_sti 5 rfl rfl ?_; refine o_store5 rfl tabOk rfl rfl rfl rfl rfl (by first | exact de_k _ | exact de_s _ | exact de_a _ | exact d_k _ _ _ | exact d_n _ _ _ | rfl) (by first | rfl) ?_))
   | ((refine z_sti 6 rfl rfl ?_; refine o_store6 rfl tabOk rfl rfl rfl rfl rfl (by first | exact de_k _ | exact de_s _ | exact de_a _ | exact d_k _ _ _ | exact d_n _ _ _ | rfl) (by first | rfl) ?_))))
   | (refine z_iscall ?_; first
   | ((refine z_iscallf 9 ?_; refine o_fn rfl Tryd.func9 rfl rfl rfl (raise_fn _ _) (by decide) ?_))
   | ((refine z_iscallf 11 ?_; refine o_fn rfl Tryd.func11 rfl rfl rfl (ret_fn _) (by decide) ?_))
   | ((refine z_iscallf 18 ?_; refine o_fn rfl Tryd.func18 rfl rfl rfl (fork_fn _) (by decide) ?_))
   | ((refine z_iscallf 19 ?_; refine o_fn rfl Tryd.func19 rfl rfl rfl (exec_fn _) (by decide) ?_)))
   | (refine z_ispick ?_; first
   | (refine o_pick1 rfl (by first | with_reducible rfl | with_reducible assumption | ((with_reducible refine decide_eq_true ?_); first | with_reducible rfl | with_reducible assumption | omega)) rfl (by decide) ?_)
   | (refine o_pick0 rfl (by first | with_reducible rfl | with_reducible assumption | ((with_reducible refine decide_eq_false ?_); first | with_reducible assumption | omega)) rfl (by decide) ?_)
   | (refine o_pick1 rfl (by first | (simp only [Bool.not_eq_true', decide_eq_false_iff_not]; omega) | (with_reducible assumption) | (rw [decide_eq_false] <;> (first | omega | with_reducible rfl)) | (rw [decide_eq_true] <;> (first | omega | with_reducible rfl)) | (simp; done) | (simp; omega)) rfl (by decide) ?_)
   | (refine o_pick0 rfl (by first | (simp only [Bool.not_eq_false', decide_eq_true_eq]; omega) | (with_reducible assumption) | (rw [decide_eq_false] <;> (first | omega | with_reducible rfl)) | (rw [decide_eq_true] <;> (first | omega | with_reducible rfl)) | (simp; done) | (simp; omega)) rfl (by decide) ?_))
   | refine o_move rfl (by decide) ?_
   | refine o_assign rfl (by decide) ?_
   | refine o_nil rfl (by decide) ?_
   | refine o_extract rfl rfl (by decide) ?_
   | refine o_not rfl (by decide) ?_
   | refine o_field0 tabOk rfl rfl rfl rfl rfl (by decide) ?_
   | refine o_field tabOk rfl rfl rfl rfl rfl (by decide) ?_
   | refine o_conv tabOk rfl rfl rfl (by decide) ?_))
set_option maxHeartbeats 8000000 in
theorem does_exec {s : Sg} {r : Rf} (h : Re s r) (b : Nat) (d : De) (fr : List Chunk) (hk : d.k = 9) : DoesDeed s r b d fr := by
  refine ⟨(({ Sg.zero with w := s.w } : Sg), ({ Rf.zero with g := r.g } : Rf)), (re_exec h), ?_⟩
  intro w hw
  refine f_enter Tryd.func6 rfl Tryd.ntmps6 rfl hw ?_
  repeat' (first
   | (refine s_is ?_; first
   | (refine s_isret ?_; first
   | (exact f_r2 rfl (res_c tabOk rfl rfl rfl 0 rfl (sg_len _)) (res_t (by show some (Value.bool _) = some (Value.bool true); simp)) () trivial rfl (fun w h => ((h.sel 4 [3, 0, 1, 2] (by decide)).mask [true, false, false, false]))))
   | (refine s_isw ?_; first
   | refine c_seq ?_
   | refine c_block ?_
   | refine c_region ?_
   | refine c_mixed mixed (by kernel_rfl) ?_
   | refine c_skip ?_
   | refine c_ret ?_
   | refine c_exit ?_
   | (refine s_iscond ?_; first
   | (refine c_true rfl (by first | with_reducible rfl | with_reducible assumption | ((with_reducible refine decide_eq_true ?_); first | with_reducible rfl | with_reducible assumption | omega)) ?_)
   | (refine c_false rfl (by first | with_reducible rfl | with_reducible assumption | ((with_reducible refine decide_eq_false ?_); first | with_reducible assumption | omega)) ?_)
   | (refine c_true rfl (by first | (simp only [Bool.not_eq_true', decide_eq_false_iff_not]; omega) | (with_reducible assumption) | (rw [decide_eq_false] <;> (first | omega | with_reducible rfl)) | (rw [decide_eq_true] <;> (first | omega | with_reducible rfl)) | (simp; done) | (simp; omega)) ?_)
   | (refine c_false rfl (by first | (simp only [Bool.not_eq_false', decide_eq_true_eq]; omega) | (with_reducible assumption) | (rw [decide_eq_false] <;> (first | omega | with_reducible rfl)) | (rw [decide_eq_true] <;> (first | omega | with_reducible rfl)) | (simp; done) | (simp; omega)) ?_)
   | refine c_cond rfl (fun hc => ?_) (fun hc => ?_)
   | refine c_condb rfl (fun hc => ?_) (fun hc => ?_)))
   | refine x_then ?_
   | refine x_then_ret ?_
   | refine x_then_exit ?_
   | refine x_block _ ?_
   | refine x_block_ret _ ?_
   | refine x_block_exit _ ?_
   | refine x_block_past (by decide) ?_
   | refine z_tailm ?_)
   | (refine z_isg1 ?_; first
   | refine z_skipu (by decide) rfl rfl ?_
   | (refine z_want1 rfl rfl (by first | with_reducible rfl | with_reducible assumption | ((with_reducible refine decide_eq_true ?_); first | with_reducible rfl | with_reducible assumption | omega)) ?_)
   | (refine z_skip1 (by decide) rfl rfl (by first | with_reducible rfl | with_reducible assumption | ((with_reducible refine decide_eq_false ?_); first | with_reducible assumption | omega)) ?_)
   | (refine z_want1 rfl rfl (by first | (simp only [Bool.not_eq_true', decide_eq_false_iff_not]; omega) | (with_reducible assumption) | (rw [decide_eq_false] <;> (first | omega | with_reducible rfl)) | (rw [decide_eq_true] <;> (first | omega | with_reducible rfl)) | (simp; done) | (simp; omega)) ?_)
   | (refine z_skip1 (by decide) rfl rfl (by first | (simp only [Bool.not_eq_false', decide_eq_true_eq]; omega) | (with_reducible assumption) | (rw [decide_eq_false] <;> (first | omega | with_reducible rfl)) | (rw [decide_eq_true] <;> (first | omega | with_reducible rfl)) | (simp; done) | (simp; omega)) ?_)
   | refine z_guard1 (by decide) rfl rfl (fun hc => ?_) (fun hc => ?_)
   | refine z_guardb (by decide) rfl rfl (fun hc => ?_) (fun hc => ?_))
   | (refine z_isnil ?_; first
   | refine z_keep1 ?_
   | refine z_keep2 ?_
   | refine z_list ?_
   | refine z_mixed ?_
   | refine z_mono0 ?_
   | refine z_mono1 (by decide) fun g => ?_
   | refine z_mono2 (by decide) (by decide) fun g g' => ?_
   | refine z_mixedx ?_
   | refine z_quiet ?_)
   | (refine z_isop ?_; first
   | refine o_buildf (t := 34) (zs := Rf.zero.cs) tabOk rfl rfl (by kernel_rfl) rfl (r_fill _) (by decide) ?_
   | refine o_boxa rfl rfl (by decide) fun g => ?_
   | refine o_alloca (e := 30) (vs := Sg.zero.cs) rfl (by kernel_rfl) (by decide) fun g => ?_
   | refine o_alloca (e := 26) (vs := Cx.zero.cs) rfl (by kernel_rfl) (by decide) fun g => ?_
   | refine o_alloca (e := 40) (vs := dCs 0 0 Cx.zero) rfl (by kernel_rfl) (by decide) fun g => ?_
   | refine o_buildf (t := 40) (zs := dCs 0 0 Cx.zero) tabOk rfl rfl (by kernel_rfl) rfl (d_fill _ _ _) (by decide) ?_
   | (refine z_isbin ?_; first
   | refine o_eqa cmp40 rfl rfl (d_typed _ _ _) (d_typed _ _ _) (by decide) ?_
   | refine o_eqa cmp26 rfl rfl (cx_typed _) (cx_typed _) (by decide) ?_
   | (refine z_isb .eql ?_; first
   | refine o_eq rfl rfl (by decide) ?_
   | refine o_beq tabOk rfl rfl rfl (by decide) ?_
   | refine o_peq tabOk rfl rfl (by decide) ?_))
   | (refine z_isload ?_; first
   | refine o_loadp tabOk rfl rfl rfl 3 rfl (bo_len _) (rf_gs _) (by decide) ?_
   | refine o_loadp tabOk rfl rfl rfl 1 rfl (cx_len _) (de_c _) (by decide) ?_
   | refine o_loadp tabOk rfl rfl rfl 3 rfl (cx_len _) (de_c _) (by decide) ?_
   | (refine z_ld1 tabOk rfl rfl ?_; first
   | refine o_loadm tabOk rfl rfl rfl (by repeat' (first | exact List.mem_cons_self | apply List.mem_cons_of_mem)) (by first | exact de_k _ | exact de_s _ | exact de_a _ | exact d_k _ _ _ | exact d_n _ _ _ | rfl) (by decide) ?_
   | refine o_loads tabOk (by first | assumption | exact Rds.cons _ (by assumption) | exact Rds.cons _ (Rds.cons _ (by assumption)) | exact own_rds 0 rfl | exact own_rds 1 rfl | exact own_rds 2 rfl) rfl rfl rfl (by first | exact de_k _ | exact de_s _ | exact de_a _ | exact d_k _ _ _ | exact d_n _ _ _ | rfl) (by decide) ?_)
   | (refine z_ldw tabOk rfl rfl ?_; first
   | refine o_loadwm tabOk rfl rfl rfl (by repeat' (first | exact List.mem_cons_self | apply List.mem_cons_of_mem)) (by first | exact sg_len _ | exact cx_len _ | exact d_len _ _ _ | exact de_len _ | exact rf_len _ | (simp only [sg_len, cx_len, d_len, de_len, rf_len]) | rfl) (by decide) ?_))
   | (refine z_isstore ?_; first
   | refine o_storebk 0 tabOk rfl rfl rfl rfl (by first | exact sg_len _ | exact cx_len _ | exact d_len _ _ _ | exact de_len _ | exact rf_len _ | (simp only [sg_len, cx_len, d_len, de_len, rf_len]) | rfl) (by first | exact sg_one _ | exact cx_one _ | exact d_one _ _ _ | exact de_one _ | exact rf_one _ | rfl) (by first | exact sg_len _ | exact cx_len _ | exact d_len _ _ _ | exact de_len _ | exact rf_len _ | (simp only [sg_len, cx_len, d_len, de_len, rf_len]) | rfl) ?_
   | refine o_storebk 1 tabOk rfl rfl rfl rfl (by first | exact sg_len _ | exact cx_len _ | exact d_len _ _ _ | exact de_len _ | exact rf_len _ | (simp only [sg_len, cx_len, d_len, de_len, rf_len]) | rfl) (by first | exact sg_one _ | exact cx_one _ | exact d_one _ _ _ | exact de_one _ | exact rf_one _ | rfl) (by first | exact sg_len _ | exact cx_len _ | exact d_len _ _ _ | exact de_len _ | exact rf_len _ | (simp only [sg_len, cx_len, d_len, de_len, rf_len]) | rfl) ?_
   | (refine z_stw rfl ?_; first
   | ((refine z_sti 0 rfl rfl ?_; refine o_storeb0 rfl tabOk rfl rfl rfl (by first | exact sg_len _ | exact cx_len _ | exact d_len _ _ _ | exact de_len _ | exact rf_len _ | (simp only [sg_len, cx_len, d_len, de_len, rf_len]) | rfl) (by first | exact sg_one _ | exact cx_one _ | exact d_one _ _ _ | exact de_one _ | exact rf_one _ | rfl) (by first | exact sg_len _ | exact cx_len _ | exact d_len _ _ _ | exact de_len _ | exact rf_len _ | (simp only [sg_len, cx_len, d_len, de_len, rf_len]) | rfl) ?_))
   | ((refine z_sti 1 rfl rfl ?_; refine o_storeb1 rfl tabOk rfl rfl rfl (by first | exact sg_len _ | exact cx_len _ | exact d_len _ _ _ | exact de_len _ | exact rf_len _ | (simp only [sg_len, cx_len, d_len, de_len, rf_len]) | rfl) (by first | exact sg_one _ | exact cx_one _ | exact d_one _ _ _ | exact de_one _ | exact rf_one _ | rfl) (by first | exact sg_len _ | exact cx_len _ | exact d_len _ _ _ | exact de_len _ | exact rf_len _ | (simp only [sg_len, cx_len, d_len, de_len, rf_len]) | rfl) ?_))
   | ((refine z_sti 2 rfl rfl ?_; refine o_storeb2 rfl tabOk rfl rfl rfl (by first | exact sg_len _ | exact cx_len _ | exact d_len _ _ _ | exact de_len _ | exact rf_len _ | (simp only [sg_len, cx_len, d_len, de_len, rf_len]) | rfl) (by first | exact sg_one _ | exact cx_one _ | exact d_one _ _ _ | exact de_one _ | exact rf_one _ | rfl) (by first | exact sg_len _ | exact cx_len _ | exact d_len _ _ _ | exact de_len _ | exact rf_len _ | (simp only [sg_len, cx_len, d_len, de_len, rf_len]) | rfl) ?_))
   | ((refine z_sti 3 rfl rfl ?_; refine o_storeb3 rfl tabOk rfl rfl rfl (by first | exact sg_len _ | exact cx_len _ | exact d_len _ _ _ | exact de_len _ | exact rf_len _ | (simp only [sg_len, cx_len, d_len, de_len, rf_len]) | rfl) (by first | exact sg_one _ | exact cx_one _ | exact d_one _ _ _ | exact de_one _ | exact rf_one _ | rfl) (by first | exact sg_len _ | exact cx_len _ | exact d_len _ _ _ | exact de_len _ | exact rf_len _ | (simp only [sg_len, cx_len, d_len, de_len, rf_len]) | rfl) ?_))
   | ((refine z_sti 4 rfl rfl ?_; refine o_storeb4 rfl tabOk rfl rfl rfl (by first | exact sg_len _ | exact cx_len _ | exact d_len _ _ _ | exact de_len _ | exact rf_len _ | (simp only [sg_len, cx_len, d_len, de_len, rf_len]) | rfl) (by first | exact sg_one _ | exact cx_one _ | exact d_one _ _ _ | exact de_one _ | exact rf_one _ | rfl) (by first | exact sg_len _ | exact cx_len _ | exact d_len _ _ _ | exact de_len _ | exact rf_len _ | (simp only [sg_len, cx_len, d_len, de_len, rf_len]) | rfl) ?_))
   | ((refine z_sti 5 rfl rfl ?_; refine o_storeb5 rfl tabOk rfl rfl rfl (by first | exact sg_len _ | exact cx_len _ | exact d_len _ _ _ | exact de_len _ | exact rf_len _ | (simp only [sg_len, cx_len, d_len, de_len, rf_len]) | rfl) (by first | exact sg_one _ | exact cx_one _ | exact d_one _ _ _ | exact de_one _ | exact rf_one _ | rfl) (by first | exact sg_len _ | exact cx_len _ | exact d_len _ _ _ | exact de_len _ | exact rf_len _ | (simp only [sg_len, cx_len, d_len, de_len, rf_len]) | rfl) ?_))
   | ((refine z_sti 6 rfl rfl ?_; refine o_storeb6 rfl tabOk rfl rfl rfl (by first | exact sg_len _ | exact cx_len _ | exact d_len _ _ _ | exact de_len _ | exact rf_len _ | (simp only [sg_len, cx_len, d_len, de_len, rf_len]) | rfl) (by first | exact sg_one _ | exact cx_one _ | exact d_one _ _ _ | exact de_one _ | exact rf_one _ | rfl) (by first | exact sg_len _ | exact cx_len _ | exact d_len _ _ _ | exact de_len _ | exact rf_len _ | (simp only [sg_len, cx_len, d_len, de_len, rf_len]) | rfl) ?_)))
   | (refine z_st1 rfl rfl ?_; first
   | refine o_store rfl tabOk rfl rfl rfl rfl rfl (by first | exact de_k _ | exact de_s _ | exact de_a _ | exact d_k _ _ _ | exact d_n _ _ _ | rfl) (by first | rfl) ?_
   | ((refine z_sti 1 rfl rfl ?_; refine o_store1 rfl tabOk rfl rfl rfl rfl rfl (by first | exact de_k _ | exact de_s _ | exact de_a _ | exact d_k _ _ _ | exact d_n _ _ _ | rfl) (by first | rfl) ?_))
   | ((refine z_sti 2 rfl rfl ?_; refine o_store2 rfl tabOk rfl rfl rfl rfl rfl (by first | exact de_k _ | exact de_s _ | exact de_a _ | exact d_k _ _ _ | exact d_n _ _ _ | rfl) (by first | rfl) ?_))
   | ((refine z_sti 3 rfl rfl ?_; refine o_store3 rfl tabOk rfl rfl rfl rfl rfl (by first | exact de_k _ | exact de_s _ | exact de_a _ | exact d_k _ _ _ | exact d_n _ _ _ | rfl) (by first | rfl) ?_))
   | ((refine z_sti 4 rfl rfl ?_; refine o_store4 rfl tabOk rfl rfl rfl rfl rfl (by first | exact de_k _ | exact de_s _ | exact de_a _ | exact d_k _ _ _ | exact d_n _ _ _ | rfl) (by first | rfl) ?_))
   | ((refine z_sti 5 rfl rfl ?_; refine o_store5 rfl tabOk rfl rfl rfl rfl rfl (by first | exact de_k _ | exact de_s _ | exact de_a _ | exact d_k _ _ _ | exact d_n _ _ _ | rfl) (by first | rfl) ?_))
   | ((refine z_sti 6 rfl rfl ?_; refine o_store6 rfl tabOk rfl rfl rfl rfl rfl (by first | exact de_k _ | exact de_s _ | exact de_a _ | exact d_k _ _ _ | exact d_n _ _ _ | rfl) (by first | rfl) ?_))))
   | (refine z_iscall ?_; first
   | ((refine z_iscallf 9 ?_; refine o_fn rfl Tryd.func9 rfl rfl rfl (raise_fn _ _) (by decide) ?_))
   | ((refine z_iscallf 11 ?_; refine o_fn rfl Tryd.func11 rfl rfl rfl (ret_fn _) (by decide) ?_))
   | ((refine z_iscallf 18 ?_; refine o_fn rfl Tryd.func18 rfl rfl rfl (fork_fn _) (by decide) ?_))
   | ((refine z_iscallf 19 ?_; refine o_fn rfl Tryd.func19 rfl rfl rfl (exec_fn _) (by decide) ?_)))
   | (refine z_ispick ?_; first
   | (refine o_pick1 rfl (by first | with_reducible rfl | with_reducible assumption | ((with_reducible refine decide_eq_true ?_); first | with_reducible rfl | with_reducible assumption | omega)) rfl (by decide) ?_)
   | (refine o_pick0 rfl (by first | with_reducible rfl | with_reducible assumption | ((with_reducible refine decide_eq_false ?_); first | with_reducible assumption | omega)) rfl (by decide) ?_)
   | (refine o_pick1 rfl (by first | (simp only [Bool.not_eq_true', decide_eq_false_iff_not]; omega) | (with_reducible assumption) | (rw [decide_eq_false] <;> (first | omega | with_reducible rfl)) | (rw [decide_eq_true] <;> (first | omega | with_reducible rfl)) | (simp; done) | (simp; omega)) rfl (by decide) ?_)
   | (refine o_pick0 rfl (by first | (simp only [Bool.not_eq_false', decide_eq_true_eq]; omega) | (with_reducible assumption) | (rw [decide_eq_false] <;> (first | omega | with_reducible rfl)) | (rw [decide_eq_true] <;> (first | omega | with_reducible rfl)) | (simp; done) | (simp; omega)) rfl (by decide) ?_))
   | refine o_move rfl (by decide) ?_
   | refine o_assign rfl (by decide) ?_
   | refine o_nil rfl (by decide) ?_
   | refine o_extract rfl rfl (by decide) ?_
   | refine o_not rfl (by decide) ?_
   | refine o_field0 tabOk rfl rfl rfl rfl rfl (by decide) ?_
   | refine o_field tabOk rfl rfl rfl rfl rfl (by decide) ?_
   | refine o_conv tabOk rfl rfl rfl (by decide) ?_))
theorem does_all {s : Sg} {r : Rf} (h : Re s r) (b : Nat) (d : De) (fr : List Chunk) (ha : 0 ≤ d.a) (hT : Rds fr (some ⟨0, 0, none⟩) deB) : DoesDeed s r b d fr := by
  by_cases h1 : d.k < 0 ∨ 9 < d.k
  · exact does_none h b d fr h1
  by_cases h2 : d.k ≤ 2
  · exact does_raise h b d fr ⟨by omega, h2⟩
  by_cases h3 : d.k ≤ 4
  · exact does_set h b d fr ⟨by omega, h3⟩ ha
  by_cases h4 : d.k ≤ 6
  · exact does_next h b d fr ⟨by omega, h4⟩ hT
  by_cases h5 : d.k = 7
  · exact does_ret h b d fr h5
  by_cases h6 : d.k = 8
  · exact does_fork h b d fr h6
  · exact does_exec h b d fr (by omega)
end Go.Proofs.YtjejnlfbonpfaaaDoor
