/-
Walks over package proc and the document's programs: tables of eight; who is alive, who made whom.
-/
import Derived.Test.YtmfnjmmdchlkiaaTab
import Derived.Test.YtmfnjmmdchlkiaaEngV
namespace Go.Proofs.Ytmfnjmmdchlkiaa
set_option linter.unusedVariables false
set_option linter.unusedSimpArgs false
open Eng
/-- A program. -/
structure Pe where
  s : Int
  p : Int
  u : Int
def Pe.zero : Pe := ⟨0, 0, 0⟩
def Pe.cs (x : Pe) : List Value := [.int .i64 x.s, .int .i64 x.p, .int .u32 x.u]
theorem pe_len (x : Pe) : x.cs.length = 3 := rfl
theorem pe_one (x : Pe) : x.cs.all (·.oneCell') = true := rfl
theorem pe_s (x : Pe) : x.cs[0]? = some (.int .i64 x.s) := rfl
theorem pe_p (x : Pe) : x.cs[1]? = some (.int .i64 x.p) := rfl
theorem pe_u (x : Pe) : x.cs[2]? = some (.int .u32 x.u) := rfl
abbrev Tb := Nat → Pe
def Tb.zero : Tb := fun _ => Pe.zero
def tcs (e : Tb) : List Value := ((List.range 8).map e).flatMap Pe.cs
theorem tcs_len (e : Tb) : (tcs e).length = 24 := by
  unfold tcs
  rw [flat_len Pe.cs 3 pe_len]
  simp
theorem tcs_get (e : Tb) {i j : Nat} (h : i < 8) (hj : j < 3) : (tcs e)[i * 3 + j]? = (e i).cs[j]? := flat_get Pe.cs 3 pe_len _ i j (e i) (by simp [h]) hj
theorem tcs_at (e : Tb) {q : Nat} (h : q < 24) : (tcs e)[q]? = (e (q / 3)).cs[q % 3]? := by
  have := tcs_get e (i := q / 3) (j := q % 3) (by omega) (by omega)
  rwa [show q / 3 * 3 + q % 3 = q by omega] at this
theorem tcs_s (e : Tb) {i : Nat} (h : i < 8) : (tcs e)[i * 3 + 0]? = some (.int .i64 (e i).s) := (tcs_get e h (by omega)).trans (pe_s _)
theorem tcs_p (e : Tb) {i : Nat} (h : i < 8) : (tcs e)[i * 3 + 1]? = some (.int .i64 (e i).p) := (tcs_get e h (by omega)).trans (pe_p _)
theorem tcs_u (e : Tb) {i : Nat} (h : i < 8) : (tcs e)[i * 3 + 2]? = some (.int .u32 (e i).u) := (tcs_get e h (by omega)).trans (pe_u _)
theorem tcs_el (e : Tb) {i : Nat} (h : i < 8) : ∀ (j : Nat) u, (e i).cs[j]? = some u → (tcs e)[i * 3 + j]? = some u := fun j u hu => by
  have hj : j < 3 := (List.getElem?_eq_some_iff.1 hu).1
  rw [tcs_get e h hj, hu]
theorem tcs_one (e : Tb) : (tcs e).all (·.oneCell') = true := by
  rw [List.all_eq_true]
  intro v hv
  obtain ⟨x, _, hx⟩ := List.mem_flatMap.1 hv
  exact List.all_eq_true.1 (pe_one x) v hx
theorem tcs_ext {l : List Value} {e : Tb} (hl : l.length = 24) (h : ∀ i j, i < 8 → j < 3 → l[i * 3 + j]? = (e i).cs[j]?) : l = tcs e := by
  refine List.ext_getElem? fun q => ?_
  by_cases hq : q < 24
  · have := h (q / 3) (q % 3) (by omega) (by omega)
    rw [show q / 3 * 3 + q % 3 = q by omega] at this
    rw [this, tcs_at e hq]
  · rw [List.getElem?_eq_none (by omega), List.getElem?_eq_none (by rw [tcs_len]; omega)]
theorem tcs_set (e : Tb) {i j : Nat} (h : i < 8) (hj : j < 3) (v : Value) (x : Pe) (hx : ∀ j', j' < 3 → x.cs[j']? = if j' = j then some v else (e i).cs[j']?) : (tcs e).set (i * 3 + j) v = tcs (upd e i x) := by
  refine tcs_ext (by rw [List.length_set, tcs_len]) fun i' j' hi' hj' => ?_
  rw [List.getElem?_set]
  by_cases e1 : i' = i
  · subst e1
    unfold upd
    rw [if_pos rfl, hx j' hj']
    by_cases e2 : j' = j
    · subst e2; rw [if_pos rfl, if_pos rfl, if_pos (by rw [tcs_len]; omega)]
    · rw [if_neg (by omega), if_neg e2, tcs_get e hi' hj']
  · rw [if_neg (by omega), tcs_get e hi' hj']
    unfold upd
    rw [if_neg e1]
theorem tcs_set_s (e : Tb) {i : Nat} (h : i < 8) (v : Int) : (tcs e).set (i * 3 + 0) (.int .i64 v) = tcs (upd e i { e i with s := v }) := tcs_set e h (by omega) _ _ fun j hj => by
  match j, hj with
  | 0, _ => rfl
  | 1, _ => rfl
  | 2, _ => rfl
theorem tcs_set_p (e : Tb) {i : Nat} (h : i < 8) (v : Int) : (tcs e).set (i * 3 + 1) (.int .i64 v) = tcs (upd e i { e i with p := v }) := tcs_set e h (by omega) _ _ fun j hj => by
  match j, hj with
  | 0, _ => rfl
  | 1, _ => rfl
  | 2, _ => rfl
theorem tcs_set_u (e : Tb) {i : Nat} (h : i < 8) (v : Int) : (tcs e).set (i * 3 + 2) (.int .u32 v) = tcs (upd e i { e i with u := v }) := tcs_set e h (by omega) _ _ fun j hj => by
  match j, hj with
  | 0, _ => rfl
  | 1, _ => rfl
  | 2, _ => rfl
theorem tcs_put (e : Tb) {i : Nat} (h : i < 8) (x : Pe) : (tcs e).take (i * 3) ++ x.cs ++ (tcs e).drop (i * 3 + x.cs.length) = tcs (upd e i x) := by
  refine tcs_ext (by simp [tcs_len, pe_len]; omega) fun i' j' hi' hj' => ?_
  rw [pe_len]
  unfold upd
  by_cases h1 : i' < i
  · rw [if_neg (by omega), List.append_assoc, List.getElem?_append_left (by simp [tcs_len]; omega), List.getElem?_take_of_lt (by omega), tcs_get e hi' hj']
  · by_cases h2 : i' = i
    · subst h2
      rw [if_pos rfl, List.getElem?_append_left (by simp [tcs_len, pe_len]; omega), List.getElem?_append_right (by simp [tcs_len]; omega), List.length_take, tcs_len, Nat.min_eq_left (by omega), show i' * 3 + j' - i' * 3 = j' by omega]
    · rw [if_neg h2, List.getElem?_append_right (by simp [tcs_len, pe_len]; omega), List.getElem?_drop, List.length_append, List.length_take, tcs_len, pe_len, Nat.min_eq_left (by omega), show i * 3 + 3 + (i' * 3 + j' - (i * 3 + 3)) = i' * 3 + j' by omega, tcs_get e hi' hj']
/-- Is one alive? -/
def inB (e : Tb) (i : Int) : Bool := decide (1 ≤ i) && (decide (i ≤ 7) && decide ((e i.toNat).s = 1))
theorem in_iff {e : Tb} {i : Int} : inB e i = true ↔ 1 ≤ i ∧ i ≤ 7 ∧ (e i.toNat).s = 1 := by simp [inB]
attribute [local irreducible] Eng.Hold Eng.Z Eng.S Eng.cells Eng.old Eng.own tcs Pe.cs
theorem in_c (e : Tb) (b : Nat) (i : Int) (fr : List Chunk) (hrd : Rds fr (some ⟨b, 0, none⟩) (tcs e)) : Does Try.prog 54 [.pointer (some ⟨b, 0, none⟩), .int .i64 i] fr (fun _ : Unit => True) (fun _ => .bool (inB e i)) (fun _ => fr) := by
  intro w hw
  refine f_enter Try.func54 rfl Try.ntmps54 rfl hw ?_
  repeat' (first
   | (refine s_is ?_; first
   | (refine s_isret ?_; first
   | (exact f_r1 rfl (res_t (by show some (Value.bool _) = some (Value.bool _); simp [inB, *])) () trivial rfl (fun w h => h)))
   | (refine s_isw ?_; first
   | refine c_seq ?_
   | refine c_block ?_
   | refine c_region ?_
   | refine c_mixed mixed (by kernel_rfl) ?_
   | refine c_skip ?_
   | refine c_ret ?_
   | refine c_exit ?_
   | (refine s_iscond ?_; first
   | (refine c_true rfl (by first | with_reducible rfl | with_reducible assumption | ((with_reducible refine decide_eq_true ?_); first | with_reducible rfl | with_reducible assumption | omega)) ?_)
   | (refine c_false rfl (by first | with_reducible rfl | with_reducible assumption | ((with_reducible refine decide_eq_false ?_); first | with_reducible assumption | omega)) ?_)
   | (refine c_true rfl (by first | (simp only [Bool.not_eq_true', decide_eq_false_iff_not]; omega) | (with_reducible assumption) | (rw [decide_eq_false] <;> (first | omega | with_reducible rfl)) | (rw [decide_eq_true] <;> (first | omega | with_reducible rfl)) | (simp; done) | (simp; omega)) ?_)
   | (refine c_false rfl (by first | (simp only [Bool.not_eq_false', decide_eq_true_eq]; omega) | (with_reducible assumption) | (rw [decide_eq_false] <;> (first | omega | with_reducible rfl)) | (rw [decide_eq_true] <;> (first | omega | with_reducible rfl)) | (simp; done) | (simp; omega)) ?_)
   | refine c_cond rfl (fun hc => ?_) (fun hc => ?_)
   | refine c_condb rfl (fun hc => ?_) (fun hc => ?_)))
   | refine x_then ?_
   | refine x_then_ret ?_
   | refine x_then_exit ?_
   | refine x_block _ ?_
   | refine x_block_ret _ ?_
   | refine x_block_exit _ ?_
   | refine x_block_past (by decide) ?_
   | refine z_tailm ?_)
   | (refine z_isg1 ?_; first
   | refine z_skipu (by decide) rfl rfl ?_
   | (refine z_want1 rfl rfl (by first | with_reducible rfl | with_reducible assumption | ((with_reducible refine decide_eq_true ?_); first | with_reducible rfl | with_reducible assumption | omega)) ?_)
   | (refine z_skip1 (by decide) rfl rfl (by first | with_reducible rfl | with_reducible assumption | ((with_reducible refine decide_eq_false ?_); first | with_reducible assumption | omega)) ?_)
   | (refine z_want1 rfl rfl (by first | (simp only [Bool.not_eq_true', decide_eq_false_iff_not]; omega) | (with_reducible assumption) | (rw [decide_eq_false] <;> (first | omega | with_reducible rfl)) | (rw [decide_eq_true] <;> (first | omega | with_reducible rfl)) | (simp; done) | (simp; omega)) ?_)
   | (refine z_skip1 (by decide) rfl rfl (by first | (simp only [Bool.not_eq_false', decide_eq_true_eq]; omega) | (with_reducible assumption) | (rw [decide_eq_false] <;> (first | omega | with_reducible rfl)) | (rw [decide_eq_true] <;> (first | omega | with_reducible rfl)) | (simp; done) | (simp; omega)) ?_)
   | refine z_guard1 (by decide) rfl rfl (fun hc => ?_) (fun hc => ?_)
   | refine z_guardb (by decide) rfl rfl (fun hc => ?_) (fun hc => ?_))
   | (refine z_isnil ?_; first
   | refine z_list ?_
   | refine z_mixed ?_
   | refine z_mono0 ?_
   | refine z_mono1 (by decide) fun g => ?_
   | refine z_mono2 (by decide) (by decide) fun g g' => ?_
   | refine z_mixedx ?_
   | refine z_quiet ?_)
   | (refine z_isop ?_; first
   | refine o_indexm tabOk rfl rfl rfl rfl (by omega) (by omega) (by decide) ?_
   | (refine z_isbin ?_; first
   | (refine z_isb .eql ?_; first
   | refine o_eq rfl rfl (by decide) ?_
   | refine o_beq tabOk rfl rfl rfl (by decide) ?_
   | refine o_peq tabOk rfl rfl (by decide) ?_)
   | (refine z_isb .neq ?_; first
   | refine o_ne rfl rfl (by decide) ?_
   | refine o_bne tabOk rfl rfl rfl (by decide) ?_
   | refine o_pne tabOk rfl rfl (by decide) ?_)
   | (refine z_isb .leq ?_; first
   | refine o_le rfl rfl (by decide) ?_)
   | (refine z_isb .geq ?_; first
   | refine o_ge rfl rfl (by decide) ?_))
   | (refine z_isload ?_; first
   | refine o_loadr tabOk hrd rfl rfl rfl (by first | exact tcs_s _ (by omega) | exact tcs_p _ (by omega) | exact tcs_u _ (by omega)) (by decide) ?_
   | (refine z_ld1 tabOk rfl rfl ?_; first
   | refine o_loadm tabOk rfl rfl rfl (by repeat' (first | exact List.mem_cons_self | apply List.mem_cons_of_mem)) (by first | exact tcs_s _ (by omega) | exact tcs_p _ (by omega) | exact tcs_u _ (by omega) | exact pe_s _ | exact pe_p _ | exact pe_u _ | rfl) (by decide) ?_
   | refine o_loads tabOk (by first | assumption | exact Rds.cons _ (by assumption) | exact Rds.cons _ (Rds.cons _ (by assumption)) | exact own_rds 0 rfl | exact own_rds 1 rfl | exact own_rds 2 rfl) rfl rfl rfl (by first | exact tcs_s _ (by omega) | exact tcs_p _ (by omega) | exact tcs_u _ (by omega) | exact pe_s _ | exact pe_p _ | exact pe_u _ | rfl) (by decide) ?_)
   | (refine z_ldw tabOk rfl rfl ?_; first
   | refine o_loadwm tabOk rfl rfl rfl (by repeat' (first | exact List.mem_cons_self | apply List.mem_cons_of_mem)) (by first | exact tcs_len _ | exact pe_len _ | (simp only [tcs_len, pe_len]) | rfl) (by decide) ?_))
   | (refine z_ispick ?_; first
   | (refine o_pick1 rfl (by first | with_reducible rfl | with_reducible assumption | ((with_reducible refine decide_eq_true ?_); first | with_reducible rfl | with_reducible assumption | omega)) rfl (by decide) ?_)
   | (refine o_pick0 rfl (by first | with_reducible rfl | with_reducible assumption | ((with_reducible refine decide_eq_false ?_); first | with_reducible assumption | omega)) rfl (by decide) ?_)
   | (refine o_pick1 rfl (by first | (simp only [Bool.not_eq_true', decide_eq_false_iff_not]; omega) | (with_reducible assumption) | (rw [decide_eq_false] <;> (first | omega | with_reducible rfl)) | (rw [decide_eq_true] <;> (first | omega | with_reducible rfl)) | (simp; done) | (simp; omega)) rfl (by decide) ?_)
   | (refine o_pick0 rfl (by first | (simp only [Bool.not_eq_false', decide_eq_true_eq]; omega) | (with_reducible assumption) | (rw [decide_eq_false] <;> (first | omega | with_reducible rfl)) | (rw [decide_eq_true] <;> (first | omega | with_reducible rfl)) | (simp; done) | (simp; omega)) rfl (by decide) ?_))
   | (refine z_isix ?_; first
   | refine o_index0 tabOk rfl rfl rfl rfl (by omega) (by omega) (by decide) ?_
   | refine o_index1 tabOk rfl rfl rfl rfl (by omega) (by omega) (by decide) ?_
   | refine o_indexsk1 tabOk rfl rfl rfl rfl (by omega) (by omega) (by decide) ?_
   | refine o_indexsk tabOk rfl rfl rfl rfl (by omega) (by omega) (by decide) ?_
   | refine o_indexs1 tabOk (by first | assumption) rfl rfl rfl rfl (by omega) (by omega) (by decide) ?_)
   | refine o_move rfl (by decide) ?_
   | refine o_assign rfl (by decide) ?_
   | refine o_nil rfl (by decide) ?_
   | refine o_extract rfl rfl (by decide) ?_
   | refine o_not rfl (by decide) ?_
   | refine o_field0 tabOk rfl rfl rfl rfl rfl (by decide) ?_
   | refine o_field tabOk rfl rfl rfl rfl rfl (by decide) ?_
   | refine o_conv tabOk rfl rfl rfl (by decide) ?_))
theorem ralive_c (e : Tb) (b : Nat) (i : Int) (fr : List Chunk) (hrd : Rds fr (some ⟨b, 0, none⟩) (tcs e)) : Does Try.prog 57 [.pointer (some ⟨b, 0, none⟩), .int .i64 i] fr (fun _ : Unit => True) (fun _ => .bool (inB e i)) (fun _ => fr) := by
  intro w hw
  refine f_enter Try.func57 rfl Try.ntmps57 rfl hw ?_
  repeat' (first
   | (refine s_is ?_; first
   | (refine s_isret ?_; first
   | (exact f_r1 rfl (res_t (by show some (Value.bool _) = some (Value.bool _); simp [inB, *])) () trivial rfl (fun w h => h)))
   | (refine s_isw ?_; first
   | refine c_seq ?_
   | refine c_block ?_
   | refine c_region ?_
   | refine c_mixed mixed (by kernel_rfl) ?_
   | refine c_skip ?_
   | refine c_ret ?_
   | refine c_exit ?_
   | (refine s_iscond ?_; first
   | (refine c_true rfl (by first | with_reducible rfl | with_reducible assumption | ((with_reducible refine decide_eq_true ?_); first | with_reducible rfl | with_reducible assumption | omega)) ?_)
   | (refine c_false rfl (by first | with_reducible rfl | with_reducible assumption | ((with_reducible refine decide_eq_false ?_); first | with_reducible assumption | omega)) ?_)
   | (refine c_true rfl (by first | (simp only [Bool.not_eq_true', decide_eq_false_iff_not]; omega) | (with_reducible assumption) | (rw [decide_eq_false] <;> (first | omega | with_reducible rfl)) | (rw [decide_eq_true] <;> (first | omega | with_reducible rfl)) | (simp; done) | (simp; omega)) ?_)
   | (refine c_false rfl (by first | (simp only [Bool.not_eq_false', decide_eq_true_eq]; omega) | (with_reducible assumption) | (rw [decide_eq_false] <;> (first | omega | with_reducible rfl)) | (rw [decide_eq_true] <;> (first | omega | with_reducible rfl)) | (simp; done) | (simp; omega)) ?_)
   | refine c_cond rfl (fun hc => ?_) (fun hc => ?_)
   | refine c_condb rfl (fun hc => ?_) (fun hc => ?_)))
   | refine x_then ?_
   | refine x_then_ret ?_
   | refine x_then_exit ?_
   | refine x_block _ ?_
   | refine x_block_ret _ ?_
   | refine x_block_exit _ ?_
   | refine x_block_past (by decide) ?_
   | refine z_tailm ?_)
   | (refine z_isg1 ?_; first
   | refine z_skipu (by decide) rfl rfl ?_
   | (refine z_want1 rfl rfl (by first | with_reducible rfl | with_reducible assumption | ((with_reducible refine decide_eq_true ?_); first | with_reducible rfl | with_reducible assumption | omega)) ?_)
   | (refine z_skip1 (by decide) rfl rfl (by first | with_reducible rfl | with_reducible assumption | ((with_reducible refine decide_eq_false ?_); first | with_reducible assumption | omega)) ?_)
   | (refine z_want1 rfl rfl (by first | (simp only [Bool.not_eq_true', decide_eq_false_iff_not]; omega) | (with_reducible assumption) | (rw [decide_eq_false] <;> (first | omega | with_reducible rfl)) | (rw [decide_eq_true] <;> (first | omega | with_reducible rfl)) | (simp; done) | (simp; omega)) ?_)
   | (refine z_skip1 (by decide) rfl rfl (by first | (simp only [Bool.not_eq_false', decide_eq_true_eq]; omega) | (with_reducible assumption) | (rw [decide_eq_false] <;> (first | omega | with_reducible rfl)) | (rw [decide_eq_true] <;> (first | omega | with_reducible rfl)) | (simp; done) | (simp; omega)) ?_)
   | refine z_guard1 (by decide) rfl rfl (fun hc => ?_) (fun hc => ?_)
   | refine z_guardb (by decide) rfl rfl (fun hc => ?_) (fun hc => ?_))
   | (refine z_isnil ?_; first
   | refine z_list ?_
   | refine z_mixed ?_
   | refine z_mono0 ?_
   | refine z_mono1 (by decide) fun g => ?_
   | refine z_mono2 (by decide) (by decide) fun g g' => ?_
   | refine z_mixedx ?_
   | refine z_quiet ?_)
   | (refine z_isop ?_; first
   | refine o_indexm tabOk rfl rfl rfl rfl (by omega) (by omega) (by decide) ?_
   | (refine z_isbin ?_; first
   | (refine z_isb .eql ?_; first
   | refine o_eq rfl rfl (by decide) ?_
   | refine o_beq tabOk rfl rfl rfl (by decide) ?_
   | refine o_peq tabOk rfl rfl (by decide) ?_)
   | (refine z_isb .leq ?_; first
   | refine o_le rfl rfl (by decide) ?_)
   | (refine z_isb .geq ?_; first
   | refine o_ge rfl rfl (by decide) ?_))
   | (refine z_isload ?_; first
   | refine o_loadr tabOk hrd rfl rfl rfl (by first | exact tcs_s _ (by omega) | exact tcs_p _ (by omega) | exact tcs_u _ (by omega)) (by decide) ?_
   | (refine z_ld1 tabOk rfl rfl ?_; first
   | refine o_loadm tabOk rfl rfl rfl (by repeat' (first | exact List.mem_cons_self | apply List.mem_cons_of_mem)) (by first | exact tcs_s _ (by omega) | exact tcs_p _ (by omega) | exact tcs_u _ (by omega) | exact pe_s _ | exact pe_p _ | exact pe_u _ | rfl) (by decide) ?_
   | refine o_loads tabOk (by first | assumption | exact Rds.cons _ (by assumption) | exact Rds.cons _ (Rds.cons _ (by assumption)) | exact own_rds 0 rfl | exact own_rds 1 rfl | exact own_rds 2 rfl) rfl rfl rfl (by first | exact tcs_s _ (by omega) | exact tcs_p _ (by omega) | exact tcs_u _ (by omega) | exact pe_s _ | exact pe_p _ | exact pe_u _ | rfl) (by decide) ?_)
   | (refine z_ldw tabOk rfl rfl ?_; first
   | refine o_loadwm tabOk rfl rfl rfl (by repeat' (first | exact List.mem_cons_self | apply List.mem_cons_of_mem)) (by first | exact tcs_len _ | exact pe_len _ | (simp only [tcs_len, pe_len]) | rfl) (by decide) ?_))
   | (refine z_ispick ?_; first
   | (refine o_pick1 rfl (by first | with_reducible rfl | with_reducible assumption | ((with_reducible refine decide_eq_true ?_); first | with_reducible rfl | with_reducible assumption | omega)) rfl (by decide) ?_)
   | (refine o_pick0 rfl (by first | with_reducible rfl | with_reducible assumption | ((with_reducible refine decide_eq_false ?_); first | with_reducible assumption | omega)) rfl (by decide) ?_)
   | (refine o_pick1 rfl (by first | (simp only [Bool.not_eq_true', decide_eq_false_iff_not]; omega) | (with_reducible assumption) | (rw [decide_eq_false] <;> (first | omega | with_reducible rfl)) | (rw [decide_eq_true] <;> (first | omega | with_reducible rfl)) | (simp; done) | (simp; omega)) rfl (by decide) ?_)
   | (refine o_pick0 rfl (by first | (simp only [Bool.not_eq_false', decide_eq_true_eq]; omega) | (with_reducible assumption) | (rw [decide_eq_false] <;> (first | omega | with_reducible rfl)) | (rw [decide_eq_true] <;> (first | omega | with_reducible rfl)) | (simp; done) | (simp; omega)) rfl (by decide) ?_))
   | (refine z_isix ?_; first
   | refine o_index0 tabOk rfl rfl rfl rfl (by omega) (by omega) (by decide) ?_
   | refine o_index1 tabOk rfl rfl rfl rfl (by omega) (by omega) (by decide) ?_
   | refine o_indexsk1 tabOk rfl rfl rfl rfl (by omega) (by omega) (by decide) ?_
   | refine o_indexsk tabOk rfl rfl rfl rfl (by omega) (by omega) (by decide) ?_
   | refine o_indexs1 tabOk (by first | assumption) rfl rfl rfl rfl (by omega) (by omega) (by decide) ?_)
   | refine o_move rfl (by decide) ?_
   | refine o_assign rfl (by decide) ?_
   | refine o_nil rfl (by decide) ?_
   | refine o_extract rfl rfl (by decide) ?_
   | refine o_not rfl (by decide) ?_
   | refine o_field0 tabOk rfl rfl rfl rfl rfl (by decide) ?_
   | refine o_field tabOk rfl rfl rfl rfl rfl (by decide) ?_
   | refine o_conv tabOk rfl rfl rfl (by decide) ?_))
theorem in_nil (i : Int) : Pf Try.prog 54 [.pointer none, .int .i64 i] (.bool false) := by
  intro w hw
  refine f_enter Try.func54 rfl Try.ntmps54 rfl hw ?_
  repeat' (first
   | (refine s_is ?_; first
   | (refine s_isret ?_; first
   | exact p_r1 rfl (res_t rfl))
   | (refine s_isw ?_; first
   | refine c_seq ?_
   | refine c_block ?_
   | refine c_region ?_
   | refine c_mixed mixed (by kernel_rfl) ?_
   | refine c_skip ?_
   | refine c_ret ?_
   | refine c_exit ?_
   | (refine s_iscond ?_; first
   | (refine c_true rfl (by first | with_reducible rfl | with_reducible assumption | ((with_reducible refine decide_eq_true ?_); first | with_reducible rfl | with_reducible assumption | omega)) ?_)
   | (refine c_false rfl (by first | with_reducible rfl | with_reducible assumption | ((with_reducible refine decide_eq_false ?_); first | with_reducible assumption | omega)) ?_)
   | (refine c_true rfl (by first | (simp only [Bool.not_eq_true', decide_eq_false_iff_not]; omega) | (with_reducible assumption) | (rw [decide_eq_false] <;> (first | omega | with_reducible rfl)) | (rw [decide_eq_true] <;> (first | omega | with_reducible rfl)) | (simp; done) | (simp; omega)) ?_)
   | (refine c_false rfl (by first | (simp only [Bool.not_eq_false', decide_eq_true_eq]; omega) | (with_reducible assumption) | (rw [decide_eq_false] <;> (first | omega | with_reducible rfl)) | (rw [decide_eq_true] <;> (first | omega | with_reducible rfl)) | (simp; done) | (simp; omega)) ?_)
   | refine c_cond rfl (fun hc => ?_) (fun hc => ?_)
   | refine c_condb rfl (fun hc => ?_) (fun hc => ?_)))
   | refine x_then ?_
   | refine x_then_ret ?_
   | refine x_then_exit ?_
   | refine x_block _ ?_
   | refine x_block_ret _ ?_
   | refine x_block_exit _ ?_
   | refine x_block_past (by decide) ?_
   | refine z_tailm ?_)
   | (refine z_isg1 ?_; first
   | refine z_skipu (by decide) rfl rfl ?_
   | (refine z_want1 rfl rfl (by first | with_reducible rfl | with_reducible assumption | ((with_reducible refine decide_eq_true ?_); first | with_reducible rfl | with_reducible assumption | omega)) ?_)
   | (refine z_skip1 (by decide) rfl rfl (by first | with_reducible rfl | with_reducible assumption | ((with_reducible refine decide_eq_false ?_); first | with_reducible assumption | omega)) ?_)
   | (refine z_want1 rfl rfl (by first | (simp only [Bool.not_eq_true', decide_eq_false_iff_not]; omega) | (with_reducible assumption) | (rw [decide_eq_false] <;> (first | omega | with_reducible rfl)) | (rw [decide_eq_true] <;> (first | omega | with_reducible rfl)) | (simp; done) | (simp; omega)) ?_)
   | (refine z_skip1 (by decide) rfl rfl (by first | (simp only [Bool.not_eq_false', decide_eq_true_eq]; omega) | (with_reducible assumption) | (rw [decide_eq_false] <;> (first | omega | with_reducible rfl)) | (rw [decide_eq_true] <;> (first | omega | with_reducible rfl)) | (simp; done) | (simp; omega)) ?_)
   | refine z_guard1 (by decide) rfl rfl (fun hc => ?_) (fun hc => ?_)
   | refine z_guardb (by decide) rfl rfl (fun hc => ?_) (fun hc => ?_))
   | (refine z_isnil ?_; first
   | refine z_list ?_
   | refine z_mixed ?_
   | refine z_mono0 ?_
   | refine z_mono1 (by decide) fun g => ?_
   | refine z_mono2 (by decide) (by decide) fun g g' => ?_
   | refine z_mixedx ?_
   | refine z_quiet ?_)
   | (refine z_isop ?_; first
   | refine o_indexm tabOk rfl rfl rfl rfl (by omega) (by omega) (by decide) ?_
   | (refine z_isbin ?_; first
   | (refine z_isb .eql ?_; first
   | refine o_eq rfl rfl (by decide) ?_
   | refine o_beq tabOk rfl rfl rfl (by decide) ?_
   | refine o_peq tabOk rfl rfl (by decide) ?_)
   | (refine z_isb .neq ?_; first
   | refine o_ne rfl rfl (by decide) ?_
   | refine o_bne tabOk rfl rfl rfl (by decide) ?_
   | refine o_pne tabOk rfl rfl (by decide) ?_)
   | (refine z_isb .leq ?_; first
   | refine o_le rfl rfl (by decide) ?_)
   | (refine z_isb .geq ?_; first
   | refine o_ge rfl rfl (by decide) ?_))
   | (refine z_isload ?_; first
   | refine o_loadr tabOk hrd rfl rfl rfl (by first | exact tcs_s _ (by omega) | exact tcs_p _ (by omega) | exact tcs_u _ (by omega)) (by decide) ?_
   | (refine z_ld1 tabOk rfl rfl ?_; first
   | refine o_loadm tabOk rfl rfl rfl (by repeat' (first | exact List.mem_cons_self | apply List.mem_cons_of_mem)) (by first | exact tcs_s _ (by omega) | exact tcs_p _ (by omega) | exact tcs_u _ (by omega) | exact pe_s _ | exact pe_p _ | exact pe_u _ | rfl) (by decide) ?_
   | refine o_loads tabOk (by first | assumption | exact Rds.cons _ (by assumption) | exact Rds.cons _ (Rds.cons _ (by assumption)) | exact own_rds 0 rfl | exact own_rds 1 rfl | exact own_rds 2 rfl) rfl rfl rfl (by first | exact tcs_s _ (by omega) | exact tcs_p _ (by omega) | exact tcs_u _ (by omega) | exact pe_s _ | exact pe_p _ | exact pe_u _ | rfl) (by decide) ?_)
   | (refine z_ldw tabOk rfl rfl ?_; first
   | refine o_loadwm tabOk rfl rfl rfl (by repeat' (first | exact List.mem_cons_self | apply List.mem_cons_of_mem)) (by first | exact tcs_len _ | exact pe_len _ | (simp only [tcs_len, pe_len]) | rfl) (by decide) ?_))
   | (refine z_ispick ?_; first
   | (refine o_pick1 rfl (by first | with_reducible rfl | with_reducible assumption | ((with_reducible refine decide_eq_true ?_); first | with_reducible rfl | with_reducible assumption | omega)) rfl (by decide) ?_)
   | (refine o_pick0 rfl (by first | with_reducible rfl | with_reducible assumption | ((with_reducible refine decide_eq_false ?_); first | with_reducible assumption | omega)) rfl (by decide) ?_)
   | (refine o_pick1 rfl (by first | (simp only [Bool.not_eq_true', decide_eq_false_iff_not]; omega) | (with_reducible assumption) | (rw [decide_eq_false] <;> (first | omega | with_reducible rfl)) | (rw [decide_eq_true] <;> (first | omega | with_reducible rfl)) | (simp; done) | (simp; omega)) rfl (by decide) ?_)
   | (refine o_pick0 rfl (by first | (simp only [Bool.not_eq_false', decide_eq_true_eq]; omega) | (with_reducible assumption) | (rw [decide_eq_false] <;> (first | omega | with_reducible rfl)) | (rw [decide_eq_true] <;> (first | omega | with_reducible rfl)) | (simp; done) | (simp; omega)) rfl (by decide) ?_))
   | (refine z_isix ?_; first
   | refine o_index0 tabOk rfl rfl rfl rfl (by omega) (by omega) (by decide) ?_
   | refine o_index1 tabOk rfl rfl rfl rfl (by omega) (by omega) (by decide) ?_
   | refine o_indexsk1 tabOk rfl rfl rfl rfl (by omega) (by omega) (by decide) ?_
   | refine o_indexsk tabOk rfl rfl rfl rfl (by omega) (by omega) (by decide) ?_
   | refine o_indexs1 tabOk (by first | assumption) rfl rfl rfl rfl (by omega) (by omega) (by decide) ?_)
   | refine o_move rfl (by decide) ?_
   | refine o_assign rfl (by decide) ?_
   | refine o_nil rfl (by decide) ?_
   | refine o_extract rfl rfl (by decide) ?_
   | refine o_not rfl (by decide) ?_
   | refine o_field0 tabOk rfl rfl rfl rfl rfl (by decide) ?_
   | refine o_field tabOk rfl rfl rfl rfl rfl (by decide) ?_
   | refine o_conv tabOk rfl rfl rfl (by decide) ?_))
end Go.Proofs.Ytmfnjmmdchlkiaa
