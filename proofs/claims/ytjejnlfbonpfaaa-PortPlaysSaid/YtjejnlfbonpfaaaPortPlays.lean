/-
A port is a list of words: the law, walked.
-/
import Derived.Test.YtjejnlfbonpfaaaPortLaw
import Derived.Test.YtjejnlfbonpfaaaEng7
namespace Go.Proofs.Ytjejnlfbonpfaaa
set_option linter.unusedVariables false
set_option linter.unusedSimpArgs false
open Eng
attribute [local irreducible] Eng.Z Eng.S Eng.arr portCs Eng.some_ Eng.own Eng.cells Eng.old
/-- A deed's cells. -/
def deed9 (d : Int × Int × Int) : List Value := [.int .i64 d.1, .int .i64 d.2.1, .int .u32 d.2.2]
theorem deed9_at (D : List (Int × Int × Int)) {k : Nat} (d : Int × Int × Int) (h : D[k]? = some d) : ∀ j u, (deed9 d)[j]? = some u → (D.flatMap deed9)[k * 3 + j]? = some u := fun j u hu => by
  have hj : j < 3 := (List.getElem?_eq_some_iff.1 hu).1
  rw [flat_get deed9 3 (fun _ => rfl) D k j d h hj, hu]
theorem u32s_app (s : List Int) (x : Int) : u32s (s ++ [x]) = u32s s ++ [.int .u32 x] := by simp [u32s]
section
variable (b : Nat) (q : List Int) (x : Int)
theorem recvq_pop (h : 0 < q.length) : Does Try.prog 20 [pp b] [portQ b q] (fun _ : Unit => True) (fun _ => .tuple #[.int .u32 (q.getD 0 0), .bool true]) (fun _ => [portQ b (q.drop 1)]) := by
  have := recvq_drop b q 0 h
  simpa using this
theorem recvq_nil (h : q.length = 0) : Does Try.prog 20 [pp b] [portQ b q] (fun _ : Unit => True) (fun _ => .tuple #[.int .u32 0, .bool false]) (fun _ => [portQ b q]) := by
  rw [List.eq_nil_of_length_eq_zero h]; exact recvq_none b
end
theorem u32s_cat (s t : List Int) : u32s (s ++ t) = u32s s ++ u32s t := by simp [u32s]
theorem u32s_one (s : List Int) : (u32s s).all (·.oneCell') = true := by simp [u32s]; intros; rfl
theorem u32s_len (s : List Int) : (u32s s).length = s.length := by simp [u32s]
theorem u32s_drop (s : List Int) (m : Nat) : u32s (s.drop m) = (u32s s).drop m := by simp [u32s, List.map_drop]
theorem u32s_take (s : List Int) (m : Nat) : u32s (s.take m) = (u32s s).take m := by simp [u32s, List.map_take]
set_option maxHeartbeats 8000000 in
theorem portPlays (W : World) (A0 : Option Addr) (c0 : Nat) (D : List (Int × Int × Int)) (hrd : Rds [old W] A0 (D.flatMap deed9)) (hx : D.length ≤ 9223372036854775807) :
    Does Try.prog 8 [.slice A0 D.length c0] [old W] (fun _ : Unit => True) (fun _ => .bool true) (fun _ => [old W]) := by
  intro w hw
  have hne : 0 < D.length → A0 ≠ none := fun h => hrd.ne hw (by rw [flat_len deed9 3 (fun _ => rfl)]; omega)
  refine f_enter Try.func8 rfl Try.ntmps8 rfl hw ?_
  repeat' (first
    | refine o_build (v := .agg (portCs (fun _ => 0) 0 0).toArray) rfl (fun _ => by kernel_rfl) (by decide) ?_
    | ((refine o_boxa rfl rfl (by decide) fun g => ?_; refine Z.heapx rfl (hp' := [portQ g [], old W]) ?_ (fun w h => h.hide (fun _ => 0, 0) (Ring.nil _) rfl)))
    | refine c_seq ?_
    | refine c_block ?_
    | refine c_region ?_
    | refine c_mixed mixed (by kernel_rfl) ?_
    | refine c_skip ?_
    | refine c_ret ?_
    | refine c_exit ?_
    | refine z_list ?_
    | refine z_mixed ?_
    | refine x_then ?_
    | refine x_then_ret ?_
    | refine x_then_exit ?_
    | refine x_block _ ?_
    | refine x_block_ret _ ?_
    | refine x_block_exit _ ?_
    | refine x_block_past (by decide) ?_
    | (refine c_true rfl (by first | rfl | exact decide_eq_true rfl | exact decide_eq_true ‹_› | exact decide_eq_true (by omega) | (simp only [Bool.not_eq_true', decide_eq_false_iff_not]; omega) | assumption | (rw [decide_eq_false] <;> (first | omega | rfl)) | (rw [decide_eq_true] <;> (first | omega | rfl)) | (simp; done) | (simp; omega)) ?_)
    | (refine c_false rfl (by first | rfl | exact decide_eq_false (fun h => h rfl) | exact decide_eq_false ‹_› | exact decide_eq_false (by omega) | (simp only [Bool.not_eq_false', decide_eq_true_eq]; omega) | assumption | (rw [decide_eq_false] <;> (first | omega | rfl)) | (rw [decide_eq_true] <;> (first | omega | rfl)) | (simp; done) | (simp; omega)) ?_)
    | (refine z_want rfl rfl (by first | rfl | exact decide_eq_false (fun h => h rfl) | exact decide_eq_true ‹_› | exact decide_eq_false ‹_› | exact decide_eq_true (by omega) | exact decide_eq_false (by omega) | (simp only [Bool.not_eq_true', Bool.not_eq_false', decide_eq_false_iff_not, decide_eq_true_eq]; omega) | assumption | (rw [decide_eq_false] <;> (first | omega | rfl)) | (rw [decide_eq_true] <;> (first | omega | rfl)) | (simp; done) | (simp; omega)) ?_)
    | (refine z_skip (by decide) rfl rfl (by first | rfl | exact decide_eq_false (fun h => h rfl) | exact decide_eq_true ‹_› | exact decide_eq_false ‹_› | exact decide_eq_true (by omega) | exact decide_eq_false (by omega) | (simp only [Bool.not_eq_true', Bool.not_eq_false', decide_eq_false_iff_not, decide_eq_true_eq]; omega) | assumption | (rw [decide_eq_false] <;> (first | omega | rfl)) | (rw [decide_eq_true] <;> (first | omega | rfl)) | (simp; done) | (simp; omega)) ?_)
    | refine z_skipu (by decide) rfl rfl ?_
    | refine o_move rfl (by decide) ?_
    | refine o_assign rfl (by decide) ?_
    | refine o_nil rfl (by decide) ?_
    | (refine o_pick1 rfl (by first | rfl | exact decide_eq_true rfl | exact decide_eq_true ‹_› | exact decide_eq_true (by omega) | (simp only [Bool.not_eq_true', decide_eq_false_iff_not]; omega) | assumption | (rw [decide_eq_false] <;> (first | omega | rfl)) | (rw [decide_eq_true] <;> (first | omega | rfl)) | (simp; done) | (simp; omega)) rfl (by decide) ?_)
    | (refine o_pick0 rfl (by first | rfl | exact decide_eq_false (fun h => h rfl) | exact decide_eq_false ‹_› | exact decide_eq_false (by omega) | (simp only [Bool.not_eq_false', decide_eq_true_eq]; omega) | assumption | (rw [decide_eq_false] <;> (first | omega | rfl)) | (rw [decide_eq_true] <;> (first | omega | rfl)) | (simp; done) | (simp; omega)) rfl (by decide) ?_)
    | refine o_extract rfl rfl (by decide) ?_
    | refine o_not rfl (by decide) ?_
    | refine o_add rfl rfl (by omega) (by omega) (by decide) ?_
    | refine o_sub rfl rfl (by omega) (by omega) (by decide) ?_
    | refine o_quo rfl rfl (by omega) (by omega) (by omega) (by decide) ?_
    | refine o_rem rfl rfl (by omega) (by omega) (by decide) ?_
    | refine o_and rfl rfl (by decide) ?_
    | refine o_or rfl rfl (by decide) ?_
    | refine o_andNot rfl rfl (by decide) ?_
    | refine o_shl rfl rfl (by omega) (by decide) ?_
    | refine o_shr rfl rfl (by omega) (by decide) ?_
    | refine o_conv tabOk rfl rfl rfl (by decide) ?_
    | refine o_addw rfl rfl (by decide) ?_
    | refine o_subw rfl rfl (by decide) ?_
    | refine o_mulw rfl rfl (by decide) ?_
    | refine o_eq rfl rfl (by decide) ?_
    | refine o_ne rfl rfl (by decide) ?_
    | refine o_lt rfl rfl (by decide) ?_
    | refine o_le rfl rfl (by decide) ?_
    | refine o_gt rfl rfl (by decide) ?_
    | refine o_ge rfl rfl (by decide) ?_
    | refine o_peq tabOk rfl rfl (by decide) ?_
    | refine o_pne tabOk rfl rfl (by decide) ?_
    | refine o_beq tabOk rfl rfl rfl (by decide) ?_
    | refine o_bne tabOk rfl rfl rfl (by decide) ?_
    | refine o_field0 tabOk rfl rfl rfl rfl rfl (by decide) ?_
    | refine o_field tabOk rfl rfl rfl rfl rfl (by decide) ?_
    | refine o_index0 tabOk rfl rfl rfl rfl (by omega) (by omega) (by decide) ?_
    | refine o_index1 tabOk rfl rfl rfl rfl (by omega) (by omega) (by decide) ?_
    | refine o_len tabOk rfl rfl (by decide) ?_
    | refine o_min rfl rfl (by decide) ?_
    | refine o_max rfl rfl (by decide) ?_
    | refine o_indexs1 tabOk (by first | assumption) rfl rfl rfl rfl (by omega) (by omega) (by decide) ?_
    | refine o_load tabOk rfl rfl rfl 0 rfl (by first | exact u32s_at _ (by omega) | rfl) (by decide) ?_
    | refine o_load tabOk rfl rfl rfl 1 rfl (by first | exact u32s_at _ (by omega) | rfl) (by decide) ?_
    | refine o_load tabOk rfl rfl rfl 2 rfl (by first | exact u32s_at _ (by omega) | rfl) (by decide) ?_
    | refine o_loads tabOk (by first | assumption | exact Rds.cons _ (Rds.cons _ (by assumption)) | exact own_rds 0 rfl | exact own_rds 1 rfl | exact own_rds 2 rfl | assumption) rfl rfl rfl (by first | exact u32s_at _ (by omega) | rfl) (by decide) ?_
    | refine o_store rfl tabOk rfl rfl rfl rfl rfl (by first | exact u32s_at _ (by omega) | rfl) (by first | rfl) ?_
    | refine o_make1 rfl tabOk zeroOk rfl rfl rfl rfl rfl (by decide) fun g => ?_
    | refine o_append rfl tabOk zeroOk rfl rfl rfl rfl rfl rfl (by first | assumption | exact Rds.cons _ (Rds.cons _ (by assumption)) | exact own_rds 0 rfl | exact own_rds 1 rfl | exact own_rds 2 rfl | assumption) (by first | rfl | simp) (by first | rfl | simp) (by omega) (by omega) (by decide) fun A' c' => ?_
    | refine o_slice tabOk rfl rfl rfl rfl rfl (by omega) (by omega) (by omega) (by decide) ?_
    | refine o_slicel tabOk rfl rfl rfl rfl (by omega) (by omega) (by omega) (by decide) ?_
    | refine o_sliceh tabOk rfl rfl rfl rfl (by omega) (by omega) (by decide) ?_
    | (refine z_front rfl 1 rfl ?_; refine o_append rfl tabOk zeroOk rfl rfl rfl rfl rfl rfl (by first | assumption | exact Rds.cons _ (Rds.cons _ (by assumption)) | exact own_rds 0 rfl | exact own_rds 1 rfl | exact own_rds 2 rfl | assumption) (by first | rfl | simp) (by first | rfl | simp) (by omega) (by omega) (by decide) fun A' c' => ?_)
    | (refine z_front rfl 2 rfl ?_; refine o_append rfl tabOk zeroOk rfl rfl rfl rfl rfl rfl (by first | assumption | exact Rds.cons _ (Rds.cons _ (by assumption)) | exact own_rds 0 rfl | exact own_rds 1 rfl | exact own_rds 2 rfl | assumption) (by first | rfl | simp) (by first | rfl | simp) (by omega) (by omega) (by decide) fun A' c' => ?_)
    | (refine z_front rfl 3 rfl ?_; refine o_append rfl tabOk zeroOk rfl rfl rfl rfl rfl rfl (by first | assumption | exact Rds.cons _ (Rds.cons _ (by assumption)) | exact own_rds 0 rfl | exact own_rds 1 rfl | exact own_rds 2 rfl | assumption) (by first | rfl | simp) (by first | rfl | simp) (by omega) (by omega) (by decide) fun A' c' => ?_)
    | refine z_guard1 (by decide) rfl rfl (fun hc => ?_) (fun hc => ?_)
    | refine z_guard0 (by decide) rfl rfl (fun hc => ?_) (fun hc => ?_)
    | refine z_guardb (by decide) rfl rfl (fun hc => ?_) (fun hc => ?_)
    | refine c_cond rfl (fun hc => ?_) (fun hc => ?_)
    | refine c_condb rfl (fun hc => ?_) (fun hc => ?_))
  refine c_loop (X := Nat × List Int × Option Addr × Nat) (fun y => y.1 ≤ D.length ∧ y.2.1.length ≤ 64) (fun y => [(0, .slice A0 D.length c0), (3, pp g), (4, .slice y.2.2.1 y.2.1.length y.2.2.2), (5, .int .i64 y.1)]) (fun y => [own y.2.2.1 y.2.2.2 38 1 y.2.1.length (u32s y.2.1), portQ g y.2.1, old W]) (fun y => D.length - y.1) (0, [], none, 0) ⟨Nat.zero_le _, Nat.zero_le _⟩ ⟨rfl, rfl, rfl, rfl, trivial⟩ (fun w h => h.nil 38 1) (fun y hy => ?_)
  obtain ⟨i, q, A, c⟩ := y
  dsimp only at hy ⊢
  obtain ⟨hi, hq⟩ := hy
  refine c_own2 0 rfl fun hqc hqn => ?_
  repeat' (first
    | refine o_call Try.func22 rfl rfl rfl awake09 (List.Perm.refl _) (by decide) fun _ _ => ?_
    | exact f_ret1 rfl rfl () trivial rfl (fun w h => h.mask [false, false, true])
    | ((refine o_indexsn tabOk (hne (by omega)) rfl rfl rfl rfl (by omega) (by omega) (by decide) ?_; obtain ⟨d, hd⟩ : ∃ d, D[i]? = some d := ⟨D[i], List.getElem?_eq_getElem (by omega)⟩; refine o_loadsw tabOk (Rds.cons _ (Rds.cons _ hrd)) rfl rfl rfl (es := deed9 d) rfl (Nat.succ_pos _) (deed9_at D d hd) (by decide) ?_))
    | ((refine o_alloca (vs := [.int .i64 0, .int .i64 0, .int .u32 0]) rfl (by kernel_rfl) (by decide) fun e => ?_; refine o_storew (cs' := deed9 d) rfl tabOk rfl rfl rfl rfl rfl (Nat.le_refl _) rfl ?_))
    | refine c_join (x := .seq (.region 7 _ _) _) (X := List Int × Option Addr × Nat) (fun z => z.1.length ≤ 64) (fun z => [(0, .slice A0 D.length c0), (3, pp g), (4, .slice z.2.1 z.1.length z.2.2), (5, .int .i64 i)]) (fun z => [own z.2.1 z.2.2 38 1 z.1.length (u32s z.1), portQ g z.1, old W]) ?_ (fun z hz => ?_)
    | refine c_join (x := .seq (.region 8 _ _) _) (X := Bool) (fun _ => True) (fun z => [(0, .slice A0 D.length c0), (3, pp g), (4, .slice A q.length c), (5, .int .i64 i), (6, pp e), (30, .int .i64 d.1), (31, .bool z)]) (fun _ => [cells e 74 (deed9 d), own A c 38 1 q.length (u32s q), portQ g q, old W]) ?_ (fun zb _ => ?_)
    | exact c_meet (decide (d.1 = 0)) trivial ⟨rfl, rfl, rfl, rfl, rfl, rfl, rfl, trivial⟩ (fun w h => h)
    | exact c_meet (decide (d.1 = 1)) trivial ⟨rfl, rfl, rfl, rfl, rfl, rfl, rfl, trivial⟩ (fun w h => h)
    | exact c_meet (decide (d.1 = 2)) trivial ⟨rfl, rfl, rfl, rfl, rfl, rfl, rfl, trivial⟩ (fun w h => h)
    | refine c_seq ?_
    | refine c_block ?_
    | refine c_region ?_
    | refine c_mixed mixed (by kernel_rfl) ?_
    | refine c_skip ?_
    | refine c_ret ?_
    | refine c_exit ?_
    | refine z_list ?_
    | refine z_mixed ?_
    | refine x_then ?_
    | refine x_then_ret ?_
    | refine x_then_exit ?_
    | refine x_block _ ?_
    | refine x_block_ret _ ?_
    | refine x_block_exit _ ?_
    | refine x_block_past (by decide) ?_
    | (refine c_true rfl (by first | rfl | exact decide_eq_true rfl | exact decide_eq_true ‹_› | exact decide_eq_true (by omega) | (simp only [Bool.not_eq_true', decide_eq_false_iff_not]; omega) | assumption | (rw [decide_eq_false] <;> (first | omega | rfl)) | (rw [decide_eq_true] <;> (first | omega | rfl)) | (simp; done) | (simp; omega)) ?_)
    | (refine c_false rfl (by first | rfl | exact decide_eq_false (fun h => h rfl) | exact decide_eq_false ‹_› | exact decide_eq_false (by omega) | (simp only [Bool.not_eq_false', decide_eq_true_eq]; omega) | assumption | (rw [decide_eq_false] <;> (first | omega | rfl)) | (rw [decide_eq_true] <;> (first | omega | rfl)) | (simp; done) | (simp; omega)) ?_)
    | (refine z_want rfl rfl (by first | rfl | exact decide_eq_false (fun h => h rfl) | exact decide_eq_true ‹_› | exact decide_eq_false ‹_› | exact decide_eq_true (by omega) | exact decide_eq_false (by omega) | (simp only [Bool.not_eq_true', Bool.not_eq_false', decide_eq_false_iff_not, decide_eq_true_eq]; omega) | assumption | (rw [decide_eq_false] <;> (first | omega | rfl)) | (rw [decide_eq_true] <;> (first | omega | rfl)) | (simp; done) | (simp; omega)) ?_)
    | (refine z_skip (by decide) rfl rfl (by first | rfl | exact decide_eq_false (fun h => h rfl) | exact decide_eq_true ‹_› | exact decide_eq_false ‹_› | exact decide_eq_true (by omega) | exact decide_eq_false (by omega) | (simp only [Bool.not_eq_true', Bool.not_eq_false', decide_eq_false_iff_not, decide_eq_true_eq]; omega) | assumption | (rw [decide_eq_false] <;> (first | omega | rfl)) | (rw [decide_eq_true] <;> (first | omega | rfl)) | (simp; done) | (simp; omega)) ?_)
    | refine z_skipu (by decide) rfl rfl ?_
    | refine o_move rfl (by decide) ?_
    | refine o_assign rfl (by decide) ?_
    | refine o_nil rfl (by decide) ?_
    | (refine o_pick1 rfl (by first | rfl | exact decide_eq_true rfl | exact decide_eq_true ‹_› | exact decide_eq_true (by omega) | (simp only [Bool.not_eq_true', decide_eq_false_iff_not]; omega) | assumption | (rw [decide_eq_false] <;> (first | omega | rfl)) | (rw [decide_eq_true] <;> (first | omega | rfl)) | (simp; done) | (simp; omega)) rfl (by decide) ?_)
    | (refine o_pick0 rfl (by first | rfl | exact decide_eq_false (fun h => h rfl) | exact decide_eq_false ‹_› | exact decide_eq_false (by omega) | (simp only [Bool.not_eq_false', decide_eq_true_eq]; omega) | assumption | (rw [decide_eq_false] <;> (first | omega | rfl)) | (rw [decide_eq_true] <;> (first | omega | rfl)) | (simp; done) | (simp; omega)) rfl (by decide) ?_)
    | refine o_extract rfl rfl (by decide) ?_
    | refine o_not rfl (by decide) ?_
    | refine o_add rfl rfl (by omega) (by omega) (by decide) ?_
    | refine o_sub rfl rfl (by omega) (by omega) (by decide) ?_
    | refine o_quo rfl rfl (by omega) (by omega) (by omega) (by decide) ?_
    | refine o_rem rfl rfl (by omega) (by omega) (by decide) ?_
    | refine o_and rfl rfl (by decide) ?_
    | refine o_or rfl rfl (by decide) ?_
    | refine o_andNot rfl rfl (by decide) ?_
    | refine o_shl rfl rfl (by omega) (by decide) ?_
    | refine o_shr rfl rfl (by omega) (by decide) ?_
    | refine o_conv tabOk rfl rfl rfl (by decide) ?_
    | refine o_addw rfl rfl (by decide) ?_
    | refine o_subw rfl rfl (by decide) ?_
    | refine o_mulw rfl rfl (by decide) ?_
    | refine o_eq rfl rfl (by decide) ?_
    | refine o_ne rfl rfl (by decide) ?_
    | refine o_lt rfl rfl (by decide) ?_
    | refine o_le rfl rfl (by decide) ?_
    | refine o_gt rfl rfl (by decide) ?_
    | refine o_ge rfl rfl (by decide) ?_
    | refine o_peq tabOk rfl rfl (by decide) ?_
    | refine o_pne tabOk rfl rfl (by decide) ?_
    | refine o_beq tabOk rfl rfl rfl (by decide) ?_
    | refine o_bne tabOk rfl rfl rfl (by decide) ?_
    | refine o_field0 tabOk rfl rfl rfl rfl rfl (by decide) ?_
    | refine o_field tabOk rfl rfl rfl rfl rfl (by decide) ?_
    | refine o_index0 tabOk rfl rfl rfl rfl (by omega) (by omega) (by decide) ?_
    | refine o_index1 tabOk rfl rfl rfl rfl (by omega) (by omega) (by decide) ?_
    | refine o_len tabOk rfl rfl (by decide) ?_
    | refine o_min rfl rfl (by decide) ?_
    | refine o_max rfl rfl (by decide) ?_
    | refine o_indexs1 tabOk (by first | assumption) rfl rfl rfl rfl (by omega) (by omega) (by decide) ?_
    | refine o_load tabOk rfl rfl rfl 0 rfl (by first | exact u32s_at _ (by omega) | rfl) (by decide) ?_
    | refine o_load tabOk rfl rfl rfl 1 rfl (by first | exact u32s_at _ (by omega) | rfl) (by decide) ?_
    | refine o_load tabOk rfl rfl rfl 2 rfl (by first | exact u32s_at _ (by omega) | rfl) (by decide) ?_
    | refine o_loads tabOk (by first | assumption | exact Rds.cons _ (Rds.cons _ (by assumption)) | exact own_rds 0 rfl | exact own_rds 1 rfl | exact own_rds 2 rfl | assumption) rfl rfl rfl (by first | exact u32s_at _ (by omega) | rfl) (by decide) ?_
    | refine o_store rfl tabOk rfl rfl rfl rfl rfl (by first | exact u32s_at _ (by omega) | rfl) (by first | rfl) ?_
    | refine o_make1 rfl tabOk zeroOk rfl rfl rfl rfl rfl (by decide) fun g => ?_
    | refine o_append rfl tabOk zeroOk rfl rfl rfl rfl rfl rfl (by first | assumption | exact Rds.cons _ (Rds.cons _ (by assumption)) | exact own_rds 0 rfl | exact own_rds 1 rfl | exact own_rds 2 rfl | assumption) (by first | rfl | simp) (by first | rfl | simp) (by omega) (by omega) (by decide) fun A' c' => ?_
    | refine o_slice tabOk rfl rfl rfl rfl rfl (by omega) (by omega) (by omega) (by decide) ?_
    | refine o_slicel tabOk rfl rfl rfl rfl (by omega) (by omega) (by omega) (by decide) ?_
    | refine o_sliceh tabOk rfl rfl rfl rfl (by omega) (by omega) (by decide) ?_
    | (refine z_front rfl 1 rfl ?_; refine o_append rfl tabOk zeroOk rfl rfl rfl rfl rfl rfl (by first | assumption | exact Rds.cons _ (Rds.cons _ (by assumption)) | exact own_rds 0 rfl | exact own_rds 1 rfl | exact own_rds 2 rfl | assumption) (by first | rfl | simp) (by first | rfl | simp) (by omega) (by omega) (by decide) fun A' c' => ?_)
    | (refine z_front rfl 2 rfl ?_; refine o_append rfl tabOk zeroOk rfl rfl rfl rfl rfl rfl (by first | assumption | exact Rds.cons _ (Rds.cons _ (by assumption)) | exact own_rds 0 rfl | exact own_rds 1 rfl | exact own_rds 2 rfl | assumption) (by first | rfl | simp) (by first | rfl | simp) (by omega) (by omega) (by decide) fun A' c' => ?_)
    | (refine z_front rfl 3 rfl ?_; refine o_append rfl tabOk zeroOk rfl rfl rfl rfl rfl rfl (by first | assumption | exact Rds.cons _ (Rds.cons _ (by assumption)) | exact own_rds 0 rfl | exact own_rds 1 rfl | exact own_rds 2 rfl | assumption) (by first | rfl | simp) (by first | rfl | simp) (by omega) (by omega) (by decide) fun A' c' => ?_)
    | refine z_guard1 (by decide) rfl rfl (fun hc => ?_) (fun hc => ?_)
    | refine z_guard0 (by decide) rfl rfl (fun hc => ?_) (fun hc => ?_)
    | refine z_guardb (by decide) rfl rfl (fun hc => ?_) (fun hc => ?_)
    | refine c_cond rfl (fun hc => ?_) (fun hc => ?_)
    | refine c_condb rfl (fun hc => ?_) (fun hc => ?_))
  · rcases Nat.lt_or_ge q.length 64 with hr | hr
    · refine o_call Try.func19 rfl rfl rfl (sendq_room _ q _ (by omega)) (perm_front 2 rfl) (by decide) fun _ _ => ?_
      repeat' (first
        | (exact c_meet (q ++ [d.2.2], A', c') (by simp; omega) ⟨rfl, rfl, sl_eq (by simp), rfl, trivial⟩ (fun w h => by dsimp only; rw [u32s_app, List.length_append]; exact h.mask [true, false, true, false, true]))
        | refine c_seq ?_
        | refine c_block ?_
        | refine c_region ?_
        | refine c_mixed mixed (by kernel_rfl) ?_
        | refine c_skip ?_
        | refine c_ret ?_
        | refine c_exit ?_
        | refine z_list ?_
        | refine z_mixed ?_
        | refine x_then ?_
        | refine x_then_ret ?_
        | refine x_then_exit ?_
        | refine x_block _ ?_
        | refine x_block_ret _ ?_
        | refine x_block_exit _ ?_
        | refine x_block_past (by decide) ?_
        | (refine c_true rfl (by first | rfl | exact decide_eq_true rfl | exact decide_eq_true ‹_› | exact decide_eq_true (by omega) | (simp only [Bool.not_eq_true', decide_eq_false_iff_not]; omega) | assumption | (rw [decide_eq_false] <;> (first | omega | rfl)) | (rw [decide_eq_true] <;> (first | omega | rfl)) | (simp; done) | (simp; omega)) ?_)
        | (refine c_false rfl (by first | rfl | exact decide_eq_false (fun h => h rfl) | exact decide_eq_false ‹_› | exact decide_eq_false (by omega) | (simp only [Bool.not_eq_false', decide_eq_true_eq]; omega) | assumption | (rw [decide_eq_false] <;> (first | omega | rfl)) | (rw [decide_eq_true] <;> (first | omega | rfl)) | (simp; done) | (simp; omega)) ?_)
        | (refine z_want rfl rfl (by first | rfl | exact decide_eq_false (fun h => h rfl) | exact decide_eq_true ‹_› | exact decide_eq_false ‹_› | exact decide_eq_true (by omega) | exact decide_eq_false (by omega) | (simp only [Bool.not_eq_true', Bool.not_eq_false', decide_eq_false_iff_not, decide_eq_true_eq]; omega) | assumption | (rw [decide_eq_false] <;> (first | omega | rfl)) | (rw [decide_eq_true] <;> (first | omega | rfl)) | (simp; done) | (simp; omega)) ?_)
        | (refine z_skip (by decide) rfl rfl (by first | rfl | exact decide_eq_false (fun h => h rfl) | exact decide_eq_true ‹_› | exact decide_eq_false ‹_› | exact decide_eq_true (by omega) | exact decide_eq_false (by omega) | (simp only [Bool.not_eq_true', Bool.not_eq_false', decide_eq_false_iff_not, decide_eq_true_eq]; omega) | assumption | (rw [decide_eq_false] <;> (first | omega | rfl)) | (rw [decide_eq_true] <;> (first | omega | rfl)) | (simp; done) | (simp; omega)) ?_)
        | refine z_skipu (by decide) rfl rfl ?_
        | refine o_move rfl (by decide) ?_
        | refine o_assign rfl (by decide) ?_
        | refine o_nil rfl (by decide) ?_
        | (refine o_pick1 rfl (by first | rfl | exact decide_eq_true rfl | exact decide_eq_true ‹_› | exact decide_eq_true (by omega) | (simp only [Bool.not_eq_true', decide_eq_false_iff_not]; omega) | assumption | (rw [decide_eq_false] <;> (first | omega | rfl)) | (rw [decide_eq_true] <;> (first | omega | rfl)) | (simp; done) | (simp; omega)) rfl (by decide) ?_)
        | (refine o_pick0 rfl (by first | rfl | exact decide_eq_false (fun h => h rfl) | exact decide_eq_false ‹_› | exact decide_eq_false (by omega) | (simp only [Bool.not_eq_false', decide_eq_true_eq]; omega) | assumption | (rw [decide_eq_false] <;> (first | omega | rfl)) | (rw [decide_eq_true] <;> (first | omega | rfl)) | (simp; done) | (simp; omega)) rfl (by decide) ?_)
        | refine o_extract rfl rfl (by decide) ?_
        | refine o_not rfl (by decide) ?_
        | refine o_add rfl rfl (by omega) (by omega) (by decide) ?_
        | refine o_sub rfl rfl (by omega) (by omega) (by decide) ?_
        | refine o_quo rfl rfl (by omega) (by omega) (by omega) (by decide) ?_
        | refine o_rem rfl rfl (by omega) (by omega) (by decide) ?_
        | refine o_and rfl rfl (by decide) ?_
        | refine o_or rfl rfl (by decide) ?_
        | refine o_andNot rfl rfl (by decide) ?_
        | refine o_shl rfl rfl (by omega) (by decide) ?_
        | refine o_shr rfl rfl (by omega) (by decide) ?_
        | refine o_conv tabOk rfl rfl rfl (by decide) ?_
        | refine o_addw rfl rfl (by decide) ?_
        | refine o_subw rfl rfl (by decide) ?_
        | refine o_mulw rfl rfl (by decide) ?_
        | refine o_eq rfl rfl (by decide) ?_
        | refine o_ne rfl rfl (by decide) ?_
        | refine o_lt rfl rfl (by decide) ?_
        | refine o_le rfl rfl (by decide) ?_
        | refine o_gt rfl rfl (by decide) ?_
        | refine o_ge rfl rfl (by decide) ?_
        | refine o_peq tabOk rfl rfl (by decide) ?_
        | refine o_pne tabOk rfl rfl (by decide) ?_
        | refine o_beq tabOk rfl rfl rfl (by decide) ?_
        | refine o_bne tabOk rfl rfl rfl (by decide) ?_
        | refine o_field0 tabOk rfl rfl rfl rfl rfl (by decide) ?_
        | refine o_field tabOk rfl rfl rfl rfl rfl (by decide) ?_
        | refine o_index0 tabOk rfl rfl rfl rfl (by omega) (by omega) (by decide) ?_
        | refine o_index1 tabOk rfl rfl rfl rfl (by omega) (by omega) (by decide) ?_
        | refine o_len tabOk rfl rfl (by decide) ?_
        | refine o_min rfl rfl (by decide) ?_
        | refine o_max rfl rfl (by decide) ?_
        | refine o_indexs1 tabOk (by first | assumption) rfl rfl rfl rfl (by omega) (by omega) (by decide) ?_
        | refine o_load tabOk rfl rfl rfl 0 rfl (by first | exact u32s_at _ (by omega) | rfl) (by decide) ?_
        | refine o_load tabOk rfl rfl rfl 1 rfl (by first | exact u32s_at _ (by omega) | rfl) (by decide) ?_
        | refine o_load tabOk rfl rfl rfl 2 rfl (by first | exact u32s_at _ (by omega) | rfl) (by decide) ?_
        | refine o_loads tabOk (by first | assumption | exact Rds.cons _ (Rds.cons _ (by assumption)) | exact own_rds 0 rfl | exact own_rds 1 rfl | exact own_rds 2 rfl | assumption) rfl rfl rfl (by first | exact u32s_at _ (by omega) | rfl) (by decide) ?_
        | refine o_store rfl tabOk rfl rfl rfl rfl rfl (by first | exact u32s_at _ (by omega) | rfl) (by first | rfl) ?_
        | refine o_make1 rfl tabOk zeroOk rfl rfl rfl rfl rfl (by decide) fun g => ?_
        | refine o_append rfl tabOk zeroOk rfl rfl rfl rfl rfl rfl (by first | assumption | exact Rds.cons _ (Rds.cons _ (by assumption)) | exact own_rds 0 rfl | exact own_rds 1 rfl | exact own_rds 2 rfl | assumption) (by first | rfl | simp) (by first | rfl | simp) (by omega) (by omega) (by decide) fun A' c' => ?_
        | refine o_slice tabOk rfl rfl rfl rfl rfl (by omega) (by omega) (by omega) (by decide) ?_
        | refine o_slicel tabOk rfl rfl rfl rfl (by omega) (by omega) (by omega) (by decide) ?_
        | refine o_sliceh tabOk rfl rfl rfl rfl (by omega) (by omega) (by decide) ?_
        | (refine z_front rfl 1 rfl ?_; refine o_append rfl tabOk zeroOk rfl rfl rfl rfl rfl rfl (by first | assumption | exact Rds.cons _ (Rds.cons _ (by assumption)) | exact own_rds 0 rfl | exact own_rds 1 rfl | exact own_rds 2 rfl | assumption) (by first | rfl | simp) (by first | rfl | simp) (by omega) (by omega) (by decide) fun A' c' => ?_)
        | (refine z_front rfl 2 rfl ?_; refine o_append rfl tabOk zeroOk rfl rfl rfl rfl rfl rfl (by first | assumption | exact Rds.cons _ (Rds.cons _ (by assumption)) | exact own_rds 0 rfl | exact own_rds 1 rfl | exact own_rds 2 rfl | assumption) (by first | rfl | simp) (by first | rfl | simp) (by omega) (by omega) (by decide) fun A' c' => ?_)
        | (refine z_front rfl 3 rfl ?_; refine o_append rfl tabOk zeroOk rfl rfl rfl rfl rfl rfl (by first | assumption | exact Rds.cons _ (Rds.cons _ (by assumption)) | exact own_rds 0 rfl | exact own_rds 1 rfl | exact own_rds 2 rfl | assumption) (by first | rfl | simp) (by first | rfl | simp) (by omega) (by omega) (by decide) fun A' c' => ?_)
        | refine z_guard1 (by decide) rfl rfl (fun hc => ?_) (fun hc => ?_)
        | refine z_guard0 (by decide) rfl rfl (fun hc => ?_) (fun hc => ?_)
        | refine z_guardb (by decide) rfl rfl (fun hc => ?_) (fun hc => ?_)
        | refine c_cond rfl (fun hc => ?_) (fun hc => ?_)
        | refine c_condb rfl (fun hc => ?_) (fun hc => ?_))
    · refine o_call Try.func19 rfl rfl rfl (sendq_full _ q _ (by omega)) (perm_front 2 rfl) (by decide) fun _ _ => ?_
      repeat' (first
        | exact c_meet (q, A, c) hq ⟨rfl, rfl, rfl, rfl, trivial⟩ (fun w h => (h.front 2 rfl).mask [true, true, false, true])
        | refine c_seq ?_
        | refine c_block ?_
        | refine c_region ?_
        | refine c_mixed mixed (by kernel_rfl) ?_
        | refine c_skip ?_
        | refine c_ret ?_
        | refine c_exit ?_
        | refine z_list ?_
        | refine z_mixed ?_
        | refine x_then ?_
        | refine x_then_ret ?_
        | refine x_then_exit ?_
        | refine x_block _ ?_
        | refine x_block_ret _ ?_
        | refine x_block_exit _ ?_
        | refine x_block_past (by decide) ?_
        | (refine c_true rfl (by first | rfl | exact decide_eq_true rfl | exact decide_eq_true ‹_› | exact decide_eq_true (by omega) | (simp only [Bool.not_eq_true', decide_eq_false_iff_not]; omega) | assumption | (rw [decide_eq_false] <;> (first | omega | rfl)) | (rw [decide_eq_true] <;> (first | omega | rfl)) | (simp; done) | (simp; omega)) ?_)
        | (refine c_false rfl (by first | rfl | exact decide_eq_false (fun h => h rfl) | exact decide_eq_false ‹_› | exact decide_eq_false (by omega) | (simp only [Bool.not_eq_false', decide_eq_true_eq]; omega) | assumption | (rw [decide_eq_false] <;> (first | omega | rfl)) | (rw [decide_eq_true] <;> (first | omega | rfl)) | (simp; done) | (simp; omega)) ?_)
        | (refine z_want rfl rfl (by first | rfl | exact decide_eq_false (fun h => h rfl) | exact decide_eq_true ‹_› | exact decide_eq_false ‹_› | exact decide_eq_true (by omega) | exact decide_eq_false (by omega) | (simp only [Bool.not_eq_true', Bool.not_eq_false', decide_eq_false_iff_not, decide_eq_true_eq]; omega) | assumption | (rw [decide_eq_false] <;> (first | omega | rfl)) | (rw [decide_eq_true] <;> (first | omega | rfl)) | (simp; done) | (simp; omega)) ?_)
        | (refine z_skip (by decide) rfl rfl (by first | rfl | exact decide_eq_false (fun h => h rfl) | exact decide_eq_true ‹_› | exact decide_eq_false ‹_› | exact decide_eq_true (by omega) | exact decide_eq_false (by omega) | (simp only [Bool.not_eq_true', Bool.not_eq_false', decide_eq_false_iff_not, decide_eq_true_eq]; omega) | assumption | (rw [decide_eq_false] <;> (first | omega | rfl)) | (rw [decide_eq_true] <;> (first | omega | rfl)) | (simp; done) | (simp; omega)) ?_)
        | refine z_skipu (by decide) rfl rfl ?_
        | refine o_move rfl (by decide) ?_
        | refine o_assign rfl (by decide) ?_
        | refine o_nil rfl (by decide) ?_
        | (refine o_pick1 rfl (by first | rfl | exact decide_eq_true rfl | exact decide_eq_true ‹_› | exact decide_eq_true (by omega) | (simp only [Bool.not_eq_true', decide_eq_false_iff_not]; omega) | assumption | (rw [decide_eq_false] <;> (first | omega | rfl)) | (rw [decide_eq_true] <;> (first | omega | rfl)) | (simp; done) | (simp; omega)) rfl (by decide) ?_)
        | (refine o_pick0 rfl (by first | rfl | exact decide_eq_false (fun h => h rfl) | exact decide_eq_false ‹_› | exact decide_eq_false (by omega) | (simp only [Bool.not_eq_false', decide_eq_true_eq]; omega) | assumption | (rw [decide_eq_false] <;> (first | omega | rfl)) | (rw [decide_eq_true] <;> (first | omega | rfl)) | (simp; done) | (simp; omega)) rfl (by decide) ?_)
        | refine o_extract rfl rfl (by decide) ?_
        | refine o_not rfl (by decide) ?_
        | refine o_add rfl rfl (by omega) (by omega) (by decide) ?_
        | refine o_sub rfl rfl (by omega) (by omega) (by decide) ?_
        | refine o_quo rfl rfl (by omega) (by omega) (by omega) (by decide) ?_
        | refine o_rem rfl rfl (by omega) (by omega) (by decide) ?_
        | refine o_and rfl rfl (by decide) ?_
        | refine o_or rfl rfl (by decide) ?_
        | refine o_andNot rfl rfl (by decide) ?_
        | refine o_shl rfl rfl (by omega) (by decide) ?_
        | refine o_shr rfl rfl (by omega) (by decide) ?_
        | refine o_conv tabOk rfl rfl rfl (by decide) ?_
        | refine o_addw rfl rfl (by decide) ?_
        | refine o_subw rfl rfl (by decide) ?_
        | refine o_mulw rfl rfl (by decide) ?_
        | refine o_eq rfl rfl (by decide) ?_
        | refine o_ne rfl rfl (by decide) ?_
        | refine o_lt rfl rfl (by decide) ?_
        | refine o_le rfl rfl (by decide) ?_
        | refine o_gt rfl rfl (by decide) ?_
        | refine o_ge rfl rfl (by decide) ?_
        | refine o_peq tabOk rfl rfl (by decide) ?_
        | refine o_pne tabOk rfl rfl (by decide) ?_
        | refine o_beq tabOk rfl rfl rfl (by decide) ?_
        | refine o_bne tabOk rfl rfl rfl (by decide) ?_
        | refine o_field0 tabOk rfl rfl rfl rfl rfl (by decide) ?_
        | refine o_field tabOk rfl rfl rfl rfl rfl (by decide) ?_
        | refine o_index0 tabOk rfl rfl rfl rfl (by omega) (by omega) (by decide) ?_
        | refine o_index1 tabOk rfl rfl rfl rfl (by omega) (by omega) (by decide) ?_
        | refine o_len tabOk rfl rfl (by decide) ?_
        | refine o_min rfl rfl (by decide) ?_
        | refine o_max rfl rfl (by decide) ?_
        | refine o_indexs1 tabOk (by first | assumption) rfl rfl rfl rfl (by omega) (by omega) (by decide) ?_
        | refine o_load tabOk rfl rfl rfl 0 rfl (by first | exact u32s_at _ (by omega) | rfl) (by decide) ?_
        | refine o_load tabOk rfl rfl rfl 1 rfl (by first | exact u32s_at _ (by omega) | rfl) (by decide) ?_
        | refine o_load tabOk rfl rfl rfl 2 rfl (by first | exact u32s_at _ (by omega) | rfl) (by decide) ?_
        | refine o_loads tabOk (by first | assumption | exact Rds.cons _ (Rds.cons _ (by assumption)) | exact own_rds 0 rfl | exact own_rds 1 rfl | exact own_rds 2 rfl | assumption) rfl rfl rfl (by first | exact u32s_at _ (by omega) | rfl) (by decide) ?_
        | refine o_store rfl tabOk rfl rfl rfl rfl rfl (by first | exact u32s_at _ (by omega) | rfl) (by first | rfl) ?_
        | refine o_make1 rfl tabOk zeroOk rfl rfl rfl rfl rfl (by decide) fun g => ?_
        | refine o_append rfl tabOk zeroOk rfl rfl rfl rfl rfl rfl (by first | assumption | exact Rds.cons _ (Rds.cons _ (by assumption)) | exact own_rds 0 rfl | exact own_rds 1 rfl | exact own_rds 2 rfl | assumption) (by first | rfl | simp) (by first | rfl | simp) (by omega) (by omega) (by decide) fun A' c' => ?_
        | refine o_slice tabOk rfl rfl rfl rfl rfl (by omega) (by omega) (by omega) (by decide) ?_
        | refine o_slicel tabOk rfl rfl rfl rfl (by omega) (by omega) (by omega) (by decide) ?_
        | refine o_sliceh tabOk rfl rfl rfl rfl (by omega) (by omega) (by decide) ?_
        | (refine z_front rfl 1 rfl ?_; refine o_append rfl tabOk zeroOk rfl rfl rfl rfl rfl rfl (by first | assumption | exact Rds.cons _ (Rds.cons _ (by assumption)) | exact own_rds 0 rfl | exact own_rds 1 rfl | exact own_rds 2 rfl | assumption) (by first | rfl | simp) (by first | rfl | simp) (by omega) (by omega) (by decide) fun A' c' => ?_)
        | (refine z_front rfl 2 rfl ?_; refine o_append rfl tabOk zeroOk rfl rfl rfl rfl rfl rfl (by first | assumption | exact Rds.cons _ (Rds.cons _ (by assumption)) | exact own_rds 0 rfl | exact own_rds 1 rfl | exact own_rds 2 rfl | assumption) (by first | rfl | simp) (by first | rfl | simp) (by omega) (by omega) (by decide) fun A' c' => ?_)
        | (refine z_front rfl 3 rfl ?_; refine o_append rfl tabOk zeroOk rfl rfl rfl rfl rfl rfl (by first | assumption | exact Rds.cons _ (Rds.cons _ (by assumption)) | exact own_rds 0 rfl | exact own_rds 1 rfl | exact own_rds 2 rfl | assumption) (by first | rfl | simp) (by first | rfl | simp) (by omega) (by omega) (by decide) fun A' c' => ?_)
        | refine z_guard1 (by decide) rfl rfl (fun hc => ?_) (fun hc => ?_)
        | refine z_guard0 (by decide) rfl rfl (fun hc => ?_) (fun hc => ?_)
        | refine z_guardb (by decide) rfl rfl (fun hc => ?_) (fun hc => ?_)
        | refine c_cond rfl (fun hc => ?_) (fun hc => ?_)
        | refine c_condb rfl (fun hc => ?_) (fun hc => ?_))
  · rcases Nat.eq_zero_or_pos q.length with hr | hr
    · refine o_call Try.func20 rfl rfl rfl (recvq_nil _ q (by omega)) (perm_front 2 rfl) (by decide) fun _ _ => ?_
      repeat' (first
        | exact c_meet (q, A, c) hq ⟨rfl, rfl, rfl, rfl, trivial⟩ (fun w h => (h.front 2 rfl).mask [true, true, false, true])
        | refine c_seq ?_
        | refine c_block ?_
        | refine c_region ?_
        | refine c_mixed mixed (by kernel_rfl) ?_
        | refine c_skip ?_
        | refine c_ret ?_
        | refine c_exit ?_
        | refine z_list ?_
        | refine z_mixed ?_
        | refine x_then ?_
        | refine x_then_ret ?_
        | refine x_then_exit ?_
        | refine x_block _ ?_
        | refine x_block_ret _ ?_
        | refine x_block_exit _ ?_
        | refine x_block_past (by decide) ?_
        | (refine c_true rfl (by first | rfl | exact decide_eq_true rfl | exact decide_eq_true ‹_› | exact decide_eq_true (by omega) | (simp only [Bool.not_eq_true', decide_eq_false_iff_not]; omega) | assumption | (rw [decide_eq_false] <;> (first | omega | rfl)) | (rw [decide_eq_true] <;> (first | omega | rfl)) | (simp; done) | (simp; omega)) ?_)
        | (refine c_false rfl (by first | rfl | exact decide_eq_false (fun h => h rfl) | exact decide_eq_false ‹_› | exact decide_eq_false (by omega) | (simp only [Bool.not_eq_false', decide_eq_true_eq]; omega) | assumption | (rw [decide_eq_false] <;> (first | omega | rfl)) | (rw [decide_eq_true] <;> (first | omega | rfl)) | (simp; done) | (simp; omega)) ?_)
        | (refine z_want rfl rfl (by first | rfl | exact decide_eq_false (fun h => h rfl) | exact decide_eq_true ‹_› | exact decide_eq_false ‹_› | exact decide_eq_true (by omega) | exact decide_eq_false (by omega) | (simp only [Bool.not_eq_true', Bool.not_eq_false', decide_eq_false_iff_not, decide_eq_true_eq]; omega) | assumption | (rw [decide_eq_false] <;> (first | omega | rfl)) | (rw [decide_eq_true] <;> (first | omega | rfl)) | (simp; done) | (simp; omega)) ?_)
        | (refine z_skip (by decide) rfl rfl (by first | rfl | exact decide_eq_false (fun h => h rfl) | exact decide_eq_true ‹_› | exact decide_eq_false ‹_› | exact decide_eq_true (by omega) | exact decide_eq_false (by omega) | (simp only [Bool.not_eq_true', Bool.not_eq_false', decide_eq_false_iff_not, decide_eq_true_eq]; omega) | assumption | (rw [decide_eq_false] <;> (first | omega | rfl)) | (rw [decide_eq_true] <;> (first | omega | rfl)) | (simp; done) | (simp; omega)) ?_)
        | refine z_skipu (by decide) rfl rfl ?_
        | refine o_move rfl (by decide) ?_
        | refine o_assign rfl (by decide) ?_
        | refine o_nil rfl (by decide) ?_
        | (refine o_pick1 rfl (by first | rfl | exact decide_eq_true rfl | exact decide_eq_true ‹_› | exact decide_eq_true (by omega) | (simp only [Bool.not_eq_true', decide_eq_false_iff_not]; omega) | assumption | (rw [decide_eq_false] <;> (first | omega | rfl)) | (rw [decide_eq_true] <;> (first | omega | rfl)) | (simp; done) | (simp; omega)) rfl (by decide) ?_)
        | (refine o_pick0 rfl (by first | rfl | exact decide_eq_false (fun h => h rfl) | exact decide_eq_false ‹_› | exact decide_eq_false (by omega) | (simp only [Bool.not_eq_false', decide_eq_true_eq]; omega) | assumption | (rw [decide_eq_false] <;> (first | omega | rfl)) | (rw [decide_eq_true] <;> (first | omega | rfl)) | (simp; done) | (simp; omega)) rfl (by decide) ?_)
        | refine o_extract rfl rfl (by decide) ?_
        | refine o_not rfl (by decide) ?_
        | refine o_add rfl rfl (by omega) (by omega) (by decide) ?_
        | refine o_sub rfl rfl (by omega) (by omega) (by decide) ?_
        | refine o_quo rfl rfl (by omega) (by omega) (by omega) (by decide) ?_
        | refine o_rem rfl rfl (by omega) (by omega) (by decide) ?_
        | refine o_and rfl rfl (by decide) ?_
        | refine o_or rfl rfl (by decide) ?_
        | refine o_andNot rfl rfl (by decide) ?_
        | refine o_shl rfl rfl (by omega) (by decide) ?_
        | refine o_shr rfl rfl (by omega) (by decide) ?_
        | refine o_conv tabOk rfl rfl rfl (by decide) ?_
        | refine o_addw rfl rfl (by decide) ?_
        | refine o_subw rfl rfl (by decide) ?_
        | refine o_mulw rfl rfl (by decide) ?_
        | refine o_eq rfl rfl (by decide) ?_
        | refine o_ne rfl rfl (by decide) ?_
        | refine o_lt rfl rfl (by decide) ?_
        | refine o_le rfl rfl (by decide) ?_
        | refine o_gt rfl rfl (by decide) ?_
        | refine o_ge rfl rfl (by decide) ?_
        | refine o_peq tabOk rfl rfl (by decide) ?_
        | refine o_pne tabOk rfl rfl (by decide) ?_
        | refine o_beq tabOk rfl rfl rfl (by decide) ?_
        | refine o_bne tabOk rfl rfl rfl (by decide) ?_
        | refine o_field0 tabOk rfl rfl rfl rfl rfl (by decide) ?_
        | refine o_field tabOk rfl rfl rfl rfl rfl (by decide) ?_
        | refine o_index0 tabOk rfl rfl rfl rfl (by omega) (by omega) (by decide) ?_
        | refine o_index1 tabOk rfl rfl rfl rfl (by omega) (by omega) (by decide) ?_
        | refine o_len tabOk rfl rfl (by decide) ?_
        | refine o_min rfl rfl (by decide) ?_
        | refine o_max rfl rfl (by decide) ?_
        | refine o_indexs1 tabOk (by first | assumption) rfl rfl rfl rfl (by omega) (by omega) (by decide) ?_
        | refine o_load tabOk rfl rfl rfl 0 rfl (by first | exact u32s_at _ (by omega) | rfl) (by decide) ?_
        | refine o_load tabOk rfl rfl rfl 1 rfl (by first | exact u32s_at _ (by omega) | rfl) (by decide) ?_
        | refine o_load tabOk rfl rfl rfl 2 rfl (by first | exact u32s_at _ (by omega) | rfl) (by decide) ?_
        | refine o_loads tabOk (by first | assumption | exact Rds.cons _ (Rds.cons _ (by assumption)) | exact own_rds 0 rfl | exact own_rds 1 rfl | exact own_rds 2 rfl | assumption) rfl rfl rfl (by first | exact u32s_at _ (by omega) | rfl) (by decide) ?_
        | refine o_store rfl tabOk rfl rfl rfl rfl rfl (by first | exact u32s_at _ (by omega) | rfl) (by first | rfl) ?_
        | refine o_make1 rfl tabOk zeroOk rfl rfl rfl rfl rfl (by decide) fun g => ?_
        | refine o_append rfl tabOk zeroOk rfl rfl rfl rfl rfl rfl (by first | assumption | exact Rds.cons _ (Rds.cons _ (by assumption)) | exact own_rds 0 rfl | exact own_rds 1 rfl | exact own_rds 2 rfl | assumption) (by first | rfl | simp) (by first | rfl | simp) (by omega) (by omega) (by decide) fun A' c' => ?_
        | refine o_slice tabOk rfl rfl rfl rfl rfl (by omega) (by omega) (by omega) (by decide) ?_
        | refine o_slicel tabOk rfl rfl rfl rfl (by omega) (by omega) (by omega) (by decide) ?_
        | refine o_sliceh tabOk rfl rfl rfl rfl (by omega) (by omega) (by decide) ?_
        | (refine z_front rfl 1 rfl ?_; refine o_append rfl tabOk zeroOk rfl rfl rfl rfl rfl rfl (by first | assumption | exact Rds.cons _ (Rds.cons _ (by assumption)) | exact own_rds 0 rfl | exact own_rds 1 rfl | exact own_rds 2 rfl | assumption) (by first | rfl | simp) (by first | rfl | simp) (by omega) (by omega) (by decide) fun A' c' => ?_)
        | (refine z_front rfl 2 rfl ?_; refine o_append rfl tabOk zeroOk rfl rfl rfl rfl rfl rfl (by first | assumption | exact Rds.cons _ (Rds.cons _ (by assumption)) | exact own_rds 0 rfl | exact own_rds 1 rfl | exact own_rds 2 rfl | assumption) (by first | rfl | simp) (by first | rfl | simp) (by omega) (by omega) (by decide) fun A' c' => ?_)
        | (refine z_front rfl 3 rfl ?_; refine o_append rfl tabOk zeroOk rfl rfl rfl rfl rfl rfl (by first | assumption | exact Rds.cons _ (Rds.cons _ (by assumption)) | exact own_rds 0 rfl | exact own_rds 1 rfl | exact own_rds 2 rfl | assumption) (by first | rfl | simp) (by first | rfl | simp) (by omega) (by omega) (by decide) fun A' c' => ?_)
        | refine z_guard1 (by decide) rfl rfl (fun hc => ?_) (fun hc => ?_)
        | refine z_guard0 (by decide) rfl rfl (fun hc => ?_) (fun hc => ?_)
        | refine z_guardb (by decide) rfl rfl (fun hc => ?_) (fun hc => ?_)
        | refine c_cond rfl (fun hc => ?_) (fun hc => ?_)
        | refine c_condb rfl (fun hc => ?_) (fun hc => ?_))
    · refine o_call Try.func20 rfl rfl rfl (recvq_pop _ q (by omega)) (perm_front 2 rfl) (by decide) fun _ _ => ?_
      repeat' (first
        | (exact c_meet (q.drop 1, cutA A c 1 1, c - 1) (by simp; omega) ⟨rfl, rfl, sl_eq (by simp), rfl, trivial⟩ (fun w h => by dsimp only; rw [u32s_drop, List.length_drop]; exact ((h.front 2 rfl).own_cut 1 (by omega)).mask [true, true, false, true]))
        | refine c_seq ?_
        | refine c_block ?_
        | refine c_region ?_
        | refine c_mixed mixed (by kernel_rfl) ?_
        | refine c_skip ?_
        | refine c_ret ?_
        | refine c_exit ?_
        | refine z_list ?_
        | refine z_mixed ?_
        | refine x_then ?_
        | refine x_then_ret ?_
        | refine x_then_exit ?_
        | refine x_block _ ?_
        | refine x_block_ret _ ?_
        | refine x_block_exit _ ?_
        | refine x_block_past (by decide) ?_
        | (refine c_true rfl (by first | rfl | exact decide_eq_true rfl | exact decide_eq_true ‹_› | exact decide_eq_true (by omega) | (simp only [Bool.not_eq_true', decide_eq_false_iff_not]; omega) | assumption | (rw [decide_eq_false] <;> (first | omega | rfl)) | (rw [decide_eq_true] <;> (first | omega | rfl)) | (simp; done) | (simp; omega)) ?_)
        | (refine c_false rfl (by first | rfl | exact decide_eq_false (fun h => h rfl) | exact decide_eq_false ‹_› | exact decide_eq_false (by omega) | (simp only [Bool.not_eq_false', decide_eq_true_eq]; omega) | assumption | (rw [decide_eq_false] <;> (first | omega | rfl)) | (rw [decide_eq_true] <;> (first | omega | rfl)) | (simp; done) | (simp; omega)) ?_)
        | (refine z_want rfl rfl (by first | rfl | exact decide_eq_false (fun h => h rfl) | exact decide_eq_true ‹_› | exact decide_eq_false ‹_› | exact decide_eq_true (by omega) | exact decide_eq_false (by omega) | (simp only [Bool.not_eq_true', Bool.not_eq_false', decide_eq_false_iff_not, decide_eq_true_eq]; omega) | assumption | (rw [decide_eq_false] <;> (first | omega | rfl)) | (rw [decide_eq_true] <;> (first | omega | rfl)) | (simp; done) | (simp; omega)) ?_)
        | (refine z_skip (by decide) rfl rfl (by first | rfl | exact decide_eq_false (fun h => h rfl) | exact decide_eq_true ‹_› | exact decide_eq_false ‹_› | exact decide_eq_true (by omega) | exact decide_eq_false (by omega) | (simp only [Bool.not_eq_true', Bool.not_eq_false', decide_eq_false_iff_not, decide_eq_true_eq]; omega) | assumption | (rw [decide_eq_false] <;> (first | omega | rfl)) | (rw [decide_eq_true] <;> (first | omega | rfl)) | (simp; done) | (simp; omega)) ?_)
        | refine z_skipu (by decide) rfl rfl ?_
        | refine o_move rfl (by decide) ?_
        | refine o_assign rfl (by decide) ?_
        | refine o_nil rfl (by decide) ?_
        | (refine o_pick1 rfl (by first | rfl | exact decide_eq_true rfl | exact decide_eq_true ‹_› | exact decide_eq_true (by omega) | (simp only [Bool.not_eq_true', decide_eq_false_iff_not]; omega) | assumption | (rw [decide_eq_false] <;> (first | omega | rfl)) | (rw [decide_eq_true] <;> (first | omega | rfl)) | (simp; done) | (simp; omega)) rfl (by decide) ?_)
        | (refine o_pick0 rfl (by first | rfl | exact decide_eq_false (fun h => h rfl) | exact decide_eq_false ‹_› | exact decide_eq_false (by omega) | (simp only [Bool.not_eq_false', decide_eq_true_eq]; omega) | assumption | (rw [decide_eq_false] <;> (first | omega | rfl)) | (rw [decide_eq_true] <;> (first | omega | rfl)) | (simp; done) | (simp; omega)) rfl (by decide) ?_)
        | refine o_extract rfl rfl (by decide) ?_
        | refine o_not rfl (by decide) ?_
        | refine o_add rfl rfl (by omega) (by omega) (by decide) ?_
        | refine o_sub rfl rfl (by omega) (by omega) (by decide) ?_
        | refine o_quo rfl rfl (by omega) (by omega) (by omega) (by decide) ?_
        | refine o_rem rfl rfl (by omega) (by omega) (by decide) ?_
        | refine o_and rfl rfl (by decide) ?_
        | refine o_or rfl rfl (by decide) ?_
        | refine o_andNot rfl rfl (by decide) ?_
        | refine o_shl rfl rfl (by omega) (by decide) ?_
        | refine o_shr rfl rfl (by omega) (by decide) ?_
        | refine o_conv tabOk rfl rfl rfl (by decide) ?_
        | refine o_addw rfl rfl (by decide) ?_
        | refine o_subw rfl rfl (by decide) ?_
        | refine o_mulw rfl rfl (by decide) ?_
        | refine o_eq rfl rfl (by decide) ?_
        | refine o_ne rfl rfl (by decide) ?_
        | refine o_lt rfl rfl (by decide) ?_
        | refine o_le rfl rfl (by decide) ?_
        | refine o_gt rfl rfl (by decide) ?_
        | refine o_ge rfl rfl (by decide) ?_
        | refine o_peq tabOk rfl rfl (by decide) ?_
        | refine o_pne tabOk rfl rfl (by decide) ?_
        | refine o_beq tabOk rfl rfl rfl (by decide) ?_
        | refine o_bne tabOk rfl rfl rfl (by decide) ?_
        | refine o_field0 tabOk rfl rfl rfl rfl rfl (by decide) ?_
        | refine o_field tabOk rfl rfl rfl rfl rfl (by decide) ?_
        | refine o_index0 tabOk rfl rfl rfl rfl (by omega) (by omega) (by decide) ?_
        | refine o_index1 tabOk rfl rfl rfl rfl (by omega) (by omega) (by decide) ?_
        | refine o_len tabOk rfl rfl (by decide) ?_
        | refine o_min rfl rfl (by decide) ?_
        | refine o_max rfl rfl (by decide) ?_
        | refine o_indexs1 tabOk (by first | exact hqn (by omega) | assumption) rfl rfl rfl rfl (by omega) (by omega) (by decide) ?_
        | refine o_load tabOk rfl rfl rfl 0 rfl (by first | exact u32s_at _ (by omega) | rfl) (by decide) ?_
        | refine o_load tabOk rfl rfl rfl 1 rfl (by first | exact u32s_at _ (by omega) | rfl) (by decide) ?_
        | refine o_load tabOk rfl rfl rfl 2 rfl (by first | exact u32s_at _ (by omega) | rfl) (by decide) ?_
        | refine o_loads tabOk (by first | assumption | exact Rds.cons _ (Rds.cons _ (by assumption)) | exact own_rds 0 rfl | exact own_rds 1 rfl | exact own_rds 2 rfl | assumption) rfl rfl rfl (by first | exact u32s_at _ (by omega) | rfl) (by decide) ?_
        | refine o_store rfl tabOk rfl rfl rfl rfl rfl (by first | exact u32s_at _ (by omega) | rfl) (by first | rfl) ?_
        | refine o_make1 rfl tabOk zeroOk rfl rfl rfl rfl rfl (by decide) fun g => ?_
        | refine o_append rfl tabOk zeroOk rfl rfl rfl rfl rfl rfl (by first | assumption | exact Rds.cons _ (Rds.cons _ (by assumption)) | exact own_rds 0 rfl | exact own_rds 1 rfl | exact own_rds 2 rfl | assumption) (by first | rfl | simp) (by first | rfl | simp) (by omega) (by omega) (by decide) fun A' c' => ?_
        | refine o_slice tabOk rfl rfl rfl rfl rfl (by omega) (by omega) (by omega) (by decide) ?_
        | refine o_slicel tabOk rfl rfl rfl rfl (by omega) (by omega) (by omega) (by decide) ?_
        | refine o_sliceh tabOk rfl rfl rfl rfl (by omega) (by omega) (by decide) ?_
        | (refine z_front rfl 1 rfl ?_; refine o_append rfl tabOk zeroOk rfl rfl rfl rfl rfl rfl (by first | assumption | exact Rds.cons _ (Rds.cons _ (by assumption)) | exact own_rds 0 rfl | exact own_rds 1 rfl | exact own_rds 2 rfl | assumption) (by first | rfl | simp) (by first | rfl | simp) (by omega) (by omega) (by decide) fun A' c' => ?_)
        | (refine z_front rfl 2 rfl ?_; refine o_append rfl tabOk zeroOk rfl rfl rfl rfl rfl rfl (by first | assumption | exact Rds.cons _ (Rds.cons _ (by assumption)) | exact own_rds 0 rfl | exact own_rds 1 rfl | exact own_rds 2 rfl | assumption) (by first | rfl | simp) (by first | rfl | simp) (by omega) (by omega) (by decide) fun A' c' => ?_)
        | (refine z_front rfl 3 rfl ?_; refine o_append rfl tabOk zeroOk rfl rfl rfl rfl rfl rfl (by first | assumption | exact Rds.cons _ (Rds.cons _ (by assumption)) | exact own_rds 0 rfl | exact own_rds 1 rfl | exact own_rds 2 rfl | assumption) (by first | rfl | simp) (by first | rfl | simp) (by omega) (by omega) (by decide) fun A' c' => ?_)
        | refine z_guard1 (by decide) rfl rfl (fun hc => ?_) (fun hc => ?_)
        | refine z_guard0 (by decide) rfl rfl (fun hc => ?_) (fun hc => ?_)
        | refine z_guardb (by decide) rfl rfl (fun hc => ?_) (fun hc => ?_)
        | refine c_cond rfl (fun hc => ?_) (fun hc => ?_)
        | refine c_condb rfl (fun hc => ?_) (fun hc => ?_))
  · have h31 : 0 ≤ bitv .and .i64 d.2.1 31 ∧ bitv .and .i64 d.2.1 31 ≤ 31 := andm d.2.1 31 (by decide)
    refine c_loop (X := List Int × Option Addr × Nat) (fun y => (y.1.length : Int) ≤ bitv .and .i64 d.2.1 31) (fun y => [(0, .slice A0 D.length c0), (3, pp g), (4, .slice A q.length c), (5, .int .i64 i), (6, pp e), (10, .slice y.2.1 y.1.length y.2.2), (11, .int .i64 y.1.length)]) (fun y => [own y.2.1 y.2.2 38 1 y.1.length (u32s y.1), cells e 74 (deed9 d), own A c 38 1 q.length (u32s q), portQ g q, old W]) (fun y => 31 - y.1.length) ([], none, 0) (by dsimp only; exact h31.1) ⟨rfl, rfl, rfl, rfl, rfl, rfl, rfl, trivial⟩ (fun w h => h.nil 38 1) (fun y hy => ?_)
    obtain ⟨s, As, cs⟩ := y
    dsimp only at hy ⊢
    refine c_own2 0 rfl fun hsc hsn => ?_
    repeat' (first
      | (exact c_again (s ++ [IntKind.u32.wrap (d.2.2 + IntKind.u32.wrap s.length)], A', c') (by simp; omega) (by simp; omega) ⟨rfl, rfl, rfl, rfl, rfl, sl_eq (by simp), sli_eq (by simp), trivial⟩ (fun w h => by dsimp only; rw [u32s_app, List.length_append]; exact h.mask [true, false, true, true, true, true]))
      | refine c_seq ?_
      | refine c_block ?_
      | refine c_region ?_
      | refine c_mixed mixed (by kernel_rfl) ?_
      | refine c_skip ?_
      | refine c_ret ?_
      | refine c_exit ?_
      | refine z_list ?_
      | refine z_mixed ?_
      | refine x_then ?_
      | refine x_then_ret ?_
      | refine x_then_exit ?_
      | refine x_block _ ?_
      | refine x_block_ret _ ?_
      | refine x_block_exit _ ?_
      | refine x_block_past (by decide) ?_
      | (refine c_true rfl (by first | rfl | exact decide_eq_true rfl | exact decide_eq_true ‹_› | exact decide_eq_true (by omega) | (simp only [Bool.not_eq_true', decide_eq_false_iff_not]; omega) | assumption | (rw [decide_eq_false] <;> (first | omega | rfl)) | (rw [decide_eq_true] <;> (first | omega | rfl)) | (simp; done) | (simp; omega)) ?_)
      | (refine c_false rfl (by first | rfl | exact decide_eq_false (fun h => h rfl) | exact decide_eq_false ‹_› | exact decide_eq_false (by omega) | (simp only [Bool.not_eq_false', decide_eq_true_eq]; omega) | assumption | (rw [decide_eq_false] <;> (first | omega | rfl)) | (rw [decide_eq_true] <;> (first | omega | rfl)) | (simp; done) | (simp; omega)) ?_)
      | (refine z_want rfl rfl (by first | rfl | exact decide_eq_false (fun h => h rfl) | exact decide_eq_true ‹_› | exact decide_eq_false ‹_› | exact decide_eq_true (by omega) | exact decide_eq_false (by omega) | (simp only [Bool.not_eq_true', Bool.not_eq_false', decide_eq_false_iff_not, decide_eq_true_eq]; omega) | assumption | (rw [decide_eq_false] <;> (first | omega | rfl)) | (rw [decide_eq_true] <;> (first | omega | rfl)) | (simp; done) | (simp; omega)) ?_)
      | (refine z_skip (by decide) rfl rfl (by first | rfl | exact decide_eq_false (fun h => h rfl) | exact decide_eq_true ‹_› | exact decide_eq_false ‹_› | exact decide_eq_true (by omega) | exact decide_eq_false (by omega) | (simp only [Bool.not_eq_true', Bool.not_eq_false', decide_eq_false_iff_not, decide_eq_true_eq]; omega) | assumption | (rw [decide_eq_false] <;> (first | omega | rfl)) | (rw [decide_eq_true] <;> (first | omega | rfl)) | (simp; done) | (simp; omega)) ?_)
      | refine z_skipu (by decide) rfl rfl ?_
      | refine o_move rfl (by decide) ?_
      | refine o_assign rfl (by decide) ?_
      | refine o_nil rfl (by decide) ?_
      | (refine o_pick1 rfl (by first | rfl | exact decide_eq_true rfl | exact decide_eq_true ‹_› | exact decide_eq_true (by omega) | (simp only [Bool.not_eq_true', decide_eq_false_iff_not]; omega) | assumption | (rw [decide_eq_false] <;> (first | omega | rfl)) | (rw [decide_eq_true] <;> (first | omega | rfl)) | (simp; done) | (simp; omega)) rfl (by decide) ?_)
      | (refine o_pick0 rfl (by first | rfl | exact decide_eq_false (fun h => h rfl) | exact decide_eq_false ‹_› | exact decide_eq_false (by omega) | (simp only [Bool.not_eq_false', decide_eq_true_eq]; omega) | assumption | (rw [decide_eq_false] <;> (first | omega | rfl)) | (rw [decide_eq_true] <;> (first | omega | rfl)) | (simp; done) | (simp; omega)) rfl (by decide) ?_)
      | refine o_extract rfl rfl (by decide) ?_
      | refine o_not rfl (by decide) ?_
      | refine o_add rfl rfl (by omega) (by omega) (by decide) ?_
      | refine o_sub rfl rfl (by omega) (by omega) (by decide) ?_
      | refine o_quo rfl rfl (by omega) (by omega) (by omega) (by decide) ?_
      | refine o_rem rfl rfl (by omega) (by omega) (by decide) ?_
      | refine o_and rfl rfl (by decide) ?_
      | refine o_or rfl rfl (by decide) ?_
      | refine o_andNot rfl rfl (by decide) ?_
      | refine o_shl rfl rfl (by omega) (by decide) ?_
      | refine o_shr rfl rfl (by omega) (by decide) ?_
      | refine o_conv tabOk rfl rfl rfl (by decide) ?_
      | refine o_addw rfl rfl (by decide) ?_
      | refine o_subw rfl rfl (by decide) ?_
      | refine o_mulw rfl rfl (by decide) ?_
      | refine o_eq rfl rfl (by decide) ?_
      | refine o_ne rfl rfl (by decide) ?_
      | refine o_lt rfl rfl (by decide) ?_
      | refine o_le rfl rfl (by decide) ?_
      | refine o_gt rfl rfl (by decide) ?_
      | refine o_ge rfl rfl (by decide) ?_
      | refine o_peq tabOk rfl rfl (by decide) ?_
      | refine o_pne tabOk rfl rfl (by decide) ?_
      | refine o_beq tabOk rfl rfl rfl (by decide) ?_
      | refine o_bne tabOk rfl rfl rfl (by decide) ?_
      | refine o_field0 tabOk rfl rfl rfl rfl rfl (by decide) ?_
      | refine o_field tabOk rfl rfl rfl rfl rfl (by decide) ?_
      | refine o_index0 tabOk rfl rfl rfl rfl (by omega) (by omega) (by decide) ?_
      | refine o_index1 tabOk rfl rfl rfl rfl (by omega) (by omega) (by decide) ?_
      | refine o_len tabOk rfl rfl (by decide) ?_
      | refine o_min rfl rfl (by decide) ?_
      | refine o_max rfl rfl (by decide) ?_
      | refine o_indexs1 tabOk (by first | exact hqn (by omega) | assumption) rfl rfl rfl rfl (by omega) (by omega) (by decide) ?_
      | refine o_load tabOk rfl rfl rfl 0 rfl (by first | exact u32s_at _ (by omega) | rfl) (by decide) ?_
      | refine o_load tabOk rfl rfl rfl 1 rfl (by first | exact u32s_at _ (by omega) | rfl) (by decide) ?_
      | refine o_load tabOk rfl rfl rfl 2 rfl (by first | exact u32s_at _ (by omega) | rfl) (by decide) ?_
      | refine o_loads tabOk (by first | assumption | exact Rds.cons _ (Rds.cons _ (by assumption)) | exact own_rds 0 rfl | exact own_rds 1 rfl | exact own_rds 2 rfl | assumption) rfl rfl rfl (by first | exact u32s_at _ (by omega) | rfl) (by decide) ?_
      | refine o_store rfl tabOk rfl rfl rfl rfl rfl (by first | exact u32s_at _ (by omega) | rfl) (by first | rfl) ?_
      | refine o_make1 rfl tabOk zeroOk rfl rfl rfl rfl rfl (by decide) fun g => ?_
      | refine o_append rfl tabOk zeroOk rfl rfl rfl rfl rfl rfl (by first | assumption | exact Rds.cons _ (Rds.cons _ (by assumption)) | exact own_rds 0 rfl | exact own_rds 1 rfl | exact own_rds 2 rfl | assumption) (by first | rfl | simp) (by first | rfl | simp) (by omega) (by omega) (by decide) fun A' c' => ?_
      | refine o_slice tabOk rfl rfl rfl rfl rfl (by omega) (by omega) (by omega) (by decide) ?_
      | refine o_slicel tabOk rfl rfl rfl rfl (by omega) (by omega) (by omega) (by decide) ?_
      | refine o_sliceh tabOk rfl rfl rfl rfl (by omega) (by omega) (by decide) ?_
      | (refine z_front rfl 1 rfl ?_; refine o_append rfl tabOk zeroOk rfl rfl rfl rfl rfl rfl (by first | assumption | exact Rds.cons _ (Rds.cons _ (by assumption)) | exact own_rds 0 rfl | exact own_rds 1 rfl | exact own_rds 2 rfl | assumption) (by first | rfl | simp) (by first | rfl | simp) (by omega) (by omega) (by decide) fun A' c' => ?_)
      | (refine z_front rfl 2 rfl ?_; refine o_append rfl tabOk zeroOk rfl rfl rfl rfl rfl rfl (by first | assumption | exact Rds.cons _ (Rds.cons _ (by assumption)) | exact own_rds 0 rfl | exact own_rds 1 rfl | exact own_rds 2 rfl | assumption) (by first | rfl | simp) (by first | rfl | simp) (by omega) (by omega) (by decide) fun A' c' => ?_)
      | (refine z_front rfl 3 rfl ?_; refine o_append rfl tabOk zeroOk rfl rfl rfl rfl rfl rfl (by first | assumption | exact Rds.cons _ (Rds.cons _ (by assumption)) | exact own_rds 0 rfl | exact own_rds 1 rfl | exact own_rds 2 rfl | assumption) (by first | rfl | simp) (by first | rfl | simp) (by omega) (by omega) (by decide) fun A' c' => ?_)
      | refine z_guard1 (by decide) rfl rfl (fun hc => ?_) (fun hc => ?_)
      | refine z_guard0 (by decide) rfl rfl (fun hc => ?_) (fun hc => ?_)
      | refine z_guardb (by decide) rfl rfl (fun hc => ?_) (fun hc => ?_)
      | refine c_cond rfl (fun hc => ?_) (fun hc => ?_)
      | refine c_condb rfl (fun hc => ?_) (fun hc => ?_))
    · refine o_call Try.func21 rfl rfl rfl (sendall_c g q s As cs [own As cs 38 1 s.length (u32s s), cells e 74 (deed9 d), own A c 38 1 q.length (u32s q), old W] (by exact own_rds 0 rfl) (by omega) hq) (perm_front 3 rfl) (by decide) fun _ _ => ?_
      repeat' (first
        | ((refine z_front rfl 3 rfl ?_; refine o_append (news := u32s (s.take (64 - q.length))) rfl tabOk zeroOk rfl rfl rfl rfl rfl rfl (by rw [u32s_take]; exact (own_rds 2 rfl).take _) (by rw [u32s_len, List.length_take]; omega) (u32s_one _) (by omega) (by omega) (by decide) fun A' c' => ?_))
        | (exact c_meet (q ++ s.take (64 - q.length), A', c') (by dsimp only; rw [List.length_append, List.length_take]; omega) ⟨rfl, rfl, sl_eq (by rw [List.length_append, List.length_take]; omega), rfl, trivial⟩ (fun w h => by dsimp only; rw [u32s_cat, List.length_append, List.length_take, show min (64 - q.length) s.length = ((s.length : Int)).toNat by omega]; exact h.mask [true, true, false, false, true]))
        | refine c_seq ?_
        | refine c_block ?_
        | refine c_region ?_
        | refine c_mixed mixed (by kernel_rfl) ?_
        | refine c_skip ?_
        | refine c_ret ?_
        | refine c_exit ?_
        | refine z_list ?_
        | refine z_mixed ?_
        | refine x_then ?_
        | refine x_then_ret ?_
        | refine x_then_exit ?_
        | refine x_block _ ?_
        | refine x_block_ret _ ?_
        | refine x_block_exit _ ?_
        | refine x_block_past (by decide) ?_
        | (refine c_true rfl (by first | rfl | exact decide_eq_true rfl | exact decide_eq_true ‹_› | exact decide_eq_true (by omega) | (simp only [Bool.not_eq_true', decide_eq_false_iff_not]; omega) | assumption | (rw [decide_eq_false] <;> (first | omega | rfl)) | (rw [decide_eq_true] <;> (first | omega | rfl)) | (simp; done) | (simp; omega)) ?_)
        | (refine c_false rfl (by first | rfl | exact decide_eq_false (fun h => h rfl) | exact decide_eq_false ‹_› | exact decide_eq_false (by omega) | (simp only [Bool.not_eq_false', decide_eq_true_eq]; omega) | assumption | (rw [decide_eq_false] <;> (first | omega | rfl)) | (rw [decide_eq_true] <;> (first | omega | rfl)) | (simp; done) | (simp; omega)) ?_)
        | (refine z_want rfl rfl (by first | rfl | exact decide_eq_false (fun h => h rfl) | exact decide_eq_true ‹_› | exact decide_eq_false ‹_› | exact decide_eq_true (by omega) | exact decide_eq_false (by omega) | (simp only [Bool.not_eq_true', Bool.not_eq_false', decide_eq_false_iff_not, decide_eq_true_eq]; omega) | assumption | (rw [decide_eq_false] <;> (first | omega | rfl)) | (rw [decide_eq_true] <;> (first | omega | rfl)) | (simp; done) | (simp; omega)) ?_)
        | (refine z_skip (by decide) rfl rfl (by first | rfl | exact decide_eq_false (fun h => h rfl) | exact decide_eq_true ‹_› | exact decide_eq_false ‹_› | exact decide_eq_true (by omega) | exact decide_eq_false (by omega) | (simp only [Bool.not_eq_true', Bool.not_eq_false', decide_eq_false_iff_not, decide_eq_true_eq]; omega) | assumption | (rw [decide_eq_false] <;> (first | omega | rfl)) | (rw [decide_eq_true] <;> (first | omega | rfl)) | (simp; done) | (simp; omega)) ?_)
        | refine z_skipu (by decide) rfl rfl ?_
        | refine o_move rfl (by decide) ?_
        | refine o_assign rfl (by decide) ?_
        | refine o_nil rfl (by decide) ?_
        | (refine o_pick1 rfl (by first | rfl | exact decide_eq_true rfl | exact decide_eq_true ‹_› | exact decide_eq_true (by omega) | (simp only [Bool.not_eq_true', decide_eq_false_iff_not]; omega) | assumption | (rw [decide_eq_false] <;> (first | omega | rfl)) | (rw [decide_eq_true] <;> (first | omega | rfl)) | (simp; done) | (simp; omega)) rfl (by decide) ?_)
        | (refine o_pick0 rfl (by first | rfl | exact decide_eq_false (fun h => h rfl) | exact decide_eq_false ‹_› | exact decide_eq_false (by omega) | (simp only [Bool.not_eq_false', decide_eq_true_eq]; omega) | assumption | (rw [decide_eq_false] <;> (first | omega | rfl)) | (rw [decide_eq_true] <;> (first | omega | rfl)) | (simp; done) | (simp; omega)) rfl (by decide) ?_)
        | refine o_extract rfl rfl (by decide) ?_
        | refine o_not rfl (by decide) ?_
        | refine o_add rfl rfl (by omega) (by omega) (by decide) ?_
        | refine o_sub rfl rfl (by omega) (by omega) (by decide) ?_
        | refine o_quo rfl rfl (by omega) (by omega) (by omega) (by decide) ?_
        | refine o_rem rfl rfl (by omega) (by omega) (by decide) ?_
        | refine o_and rfl rfl (by decide) ?_
        | refine o_or rfl rfl (by decide) ?_
        | refine o_andNot rfl rfl (by decide) ?_
        | refine o_shl rfl rfl (by omega) (by decide) ?_
        | refine o_shr rfl rfl (by omega) (by decide) ?_
        | refine o_conv tabOk rfl rfl rfl (by decide) ?_
        | refine o_addw rfl rfl (by decide) ?_
        | refine o_subw rfl rfl (by decide) ?_
        | refine o_mulw rfl rfl (by decide) ?_
        | refine o_eq rfl rfl (by decide) ?_
        | refine o_ne rfl rfl (by decide) ?_
        | refine o_lt rfl rfl (by decide) ?_
        | refine o_le rfl rfl (by decide) ?_
        | refine o_gt rfl rfl (by decide) ?_
        | refine o_ge rfl rfl (by decide) ?_
        | refine o_peq tabOk rfl rfl (by decide) ?_
        | refine o_pne tabOk rfl rfl (by decide) ?_
        | refine o_beq tabOk rfl rfl rfl (by decide) ?_
        | refine o_bne tabOk rfl rfl rfl (by decide) ?_
        | refine o_field0 tabOk rfl rfl rfl rfl rfl (by decide) ?_
        | refine o_field tabOk rfl rfl rfl rfl rfl (by decide) ?_
        | refine o_index0 tabOk rfl rfl rfl rfl (by omega) (by omega) (by decide) ?_
        | refine o_index1 tabOk rfl rfl rfl rfl (by omega) (by omega) (by decide) ?_
        | refine o_len tabOk rfl rfl (by decide) ?_
        | refine o_min rfl rfl (by decide) ?_
        | refine o_max rfl rfl (by decide) ?_
        | refine o_indexs1 tabOk (by first | exact hqn (by omega) | assumption) rfl rfl rfl rfl (by omega) (by omega) (by decide) ?_
        | refine o_load tabOk rfl rfl rfl 0 rfl (by first | exact u32s_at _ (by omega) | rfl) (by decide) ?_
        | refine o_load tabOk rfl rfl rfl 1 rfl (by first | exact u32s_at _ (by omega) | rfl) (by decide) ?_
        | refine o_load tabOk rfl rfl rfl 2 rfl (by first | exact u32s_at _ (by omega) | rfl) (by decide) ?_
        | refine o_loads tabOk (by first | assumption | exact Rds.cons _ (Rds.cons _ (by assumption)) | exact own_rds 0 rfl | exact own_rds 1 rfl | exact own_rds 2 rfl | assumption) rfl rfl rfl (by first | exact u32s_at _ (by omega) | rfl) (by decide) ?_
        | refine o_store rfl tabOk rfl rfl rfl rfl rfl (by first | exact u32s_at _ (by omega) | rfl) (by first | rfl) ?_
        | refine o_make1 rfl tabOk zeroOk rfl rfl rfl rfl rfl (by decide) fun g => ?_
        | refine o_append rfl tabOk zeroOk rfl rfl rfl rfl rfl rfl (by first | assumption | exact Rds.cons _ (Rds.cons _ (by assumption)) | exact own_rds 0 rfl | exact own_rds 1 rfl | exact own_rds 2 rfl | assumption) (by first | rfl | simp) (by first | rfl | simp) (by omega) (by omega) (by decide) fun A' c' => ?_
        | refine o_slice tabOk rfl rfl rfl rfl rfl (by omega) (by omega) (by omega) (by decide) ?_
        | refine o_slicel tabOk rfl rfl rfl rfl (by omega) (by omega) (by omega) (by decide) ?_
        | refine o_sliceh tabOk rfl rfl rfl rfl (by omega) (by omega) (by decide) ?_
        | (refine z_front rfl 1 rfl ?_; refine o_append rfl tabOk zeroOk rfl rfl rfl rfl rfl rfl (by first | assumption | exact Rds.cons _ (Rds.cons _ (by assumption)) | exact own_rds 0 rfl | exact own_rds 1 rfl | exact own_rds 2 rfl | assumption) (by first | rfl | simp) (by first | rfl | simp) (by omega) (by omega) (by decide) fun A' c' => ?_)
        | (refine z_front rfl 2 rfl ?_; refine o_append rfl tabOk zeroOk rfl rfl rfl rfl rfl rfl (by first | assumption | exact Rds.cons _ (Rds.cons _ (by assumption)) | exact own_rds 0 rfl | exact own_rds 1 rfl | exact own_rds 2 rfl | assumption) (by first | rfl | simp) (by first | rfl | simp) (by omega) (by omega) (by decide) fun A' c' => ?_)
        | (refine z_front rfl 3 rfl ?_; refine o_append rfl tabOk zeroOk rfl rfl rfl rfl rfl rfl (by first | assumption | exact Rds.cons _ (Rds.cons _ (by assumption)) | exact own_rds 0 rfl | exact own_rds 1 rfl | exact own_rds 2 rfl | assumption) (by first | rfl | simp) (by first | rfl | simp) (by omega) (by omega) (by decide) fun A' c' => ?_)
        | refine z_guard1 (by decide) rfl rfl (fun hc => ?_) (fun hc => ?_)
        | refine z_guard0 (by decide) rfl rfl (fun hc => ?_) (fun hc => ?_)
        | refine z_guardb (by decide) rfl rfl (fun hc => ?_) (fun hc => ?_)
        | refine c_cond rfl (fun hc => ?_) (fun hc => ?_)
        | refine c_condb rfl (fun hc => ?_) (fun hc => ?_))
    · refine o_call Try.func21 rfl rfl rfl (sendall_c g q s As cs [own As cs 38 1 s.length (u32s s), cells e 74 (deed9 d), own A c 38 1 q.length (u32s q), old W] (by exact own_rds 0 rfl) (by omega) hq) (perm_front 3 rfl) (by decide) fun _ _ => ?_
      repeat' (first
        | ((refine z_front rfl 3 rfl ?_; refine o_append (news := u32s (s.take (64 - q.length))) rfl tabOk zeroOk rfl rfl rfl rfl rfl rfl (by rw [u32s_take]; exact (own_rds 2 rfl).take _) (by rw [u32s_len, List.length_take]; omega) (u32s_one _) (by omega) (by omega) (by decide) fun A' c' => ?_))
        | (exact c_meet (q ++ s.take (64 - q.length), A', c') (by dsimp only; rw [List.length_append, List.length_take]; omega) ⟨rfl, rfl, sl_eq (by rw [List.length_append, List.length_take]; omega), rfl, trivial⟩ (fun w h => by dsimp only; rw [u32s_cat, List.length_append, List.length_take, show min (64 - q.length) s.length = (64 - (q.length : Int)).toNat by omega]; exact h.mask [true, true, false, false, true]))
        | refine c_seq ?_
        | refine c_block ?_
        | refine c_region ?_
        | refine c_mixed mixed (by kernel_rfl) ?_
        | refine c_skip ?_
        | refine c_ret ?_
        | refine c_exit ?_
        | refine z_list ?_
        | refine z_mixed ?_
        | refine x_then ?_
        | refine x_then_ret ?_
        | refine x_then_exit ?_
        | refine x_block _ ?_
        | refine x_block_ret _ ?_
        | refine x_block_exit _ ?_
        | refine x_block_past (by decide) ?_
        | (refine c_true rfl (by first | rfl | exact decide_eq_true rfl | exact decide_eq_true ‹_› | exact decide_eq_true (by omega) | (simp only [Bool.not_eq_true', decide_eq_false_iff_not]; omega) | assumption | (rw [decide_eq_false] <;> (first | omega | rfl)) | (rw [decide_eq_true] <;> (first | omega | rfl)) | (simp; done) | (simp; omega)) ?_)
        | (refine c_false rfl (by first | rfl | exact decide_eq_false (fun h => h rfl) | exact decide_eq_false ‹_› | exact decide_eq_false (by omega) | (simp only [Bool.not_eq_false', decide_eq_true_eq]; omega) | assumption | (rw [decide_eq_false] <;> (first | omega | rfl)) | (rw [decide_eq_true] <;> (first | omega | rfl)) | (simp; done) | (simp; omega)) ?_)
        | (refine z_want rfl rfl (by first | rfl | exact decide_eq_false (fun h => h rfl) | exact decide_eq_true ‹_› | exact decide_eq_false ‹_› | exact decide_eq_true (by omega) | exact decide_eq_false (by omega) | (simp only [Bool.not_eq_true', Bool.not_eq_false', decide_eq_false_iff_not, decide_eq_true_eq]; omega) | assumption | (rw [decide_eq_false] <;> (first | omega | rfl)) | (rw [decide_eq_true] <;> (first | omega | rfl)) | (simp; done) | (simp; omega)) ?_)
        | (refine z_skip (by decide) rfl rfl (by first | rfl | exact decide_eq_false (fun h => h rfl) | exact decide_eq_true ‹_› | exact decide_eq_false ‹_› | exact decide_eq_true (by omega) | exact decide_eq_false (by omega) | (simp only [Bool.not_eq_true', Bool.not_eq_false', decide_eq_false_iff_not, decide_eq_true_eq]; omega) | assumption | (rw [decide_eq_false] <;> (first | omega | rfl)) | (rw [decide_eq_true] <;> (first | omega | rfl)) | (simp; done) | (simp; omega)) ?_)
        | refine z_skipu (by decide) rfl rfl ?_
        | refine o_move rfl (by decide) ?_
        | refine o_assign rfl (by decide) ?_
        | refine o_nil rfl (by decide) ?_
        | (refine o_pick1 rfl (by first | rfl | exact decide_eq_true rfl | exact decide_eq_true ‹_› | exact decide_eq_true (by omega) | (simp only [Bool.not_eq_true', decide_eq_false_iff_not]; omega) | assumption | (rw [decide_eq_false] <;> (first | omega | rfl)) | (rw [decide_eq_true] <;> (first | omega | rfl)) | (simp; done) | (simp; omega)) rfl (by decide) ?_)
        | (refine o_pick0 rfl (by first | rfl | exact decide_eq_false (fun h => h rfl) | exact decide_eq_false ‹_› | exact decide_eq_false (by omega) | (simp only [Bool.not_eq_false', decide_eq_true_eq]; omega) | assumption | (rw [decide_eq_false] <;> (first | omega | rfl)) | (rw [decide_eq_true] <;> (first | omega | rfl)) | (simp; done) | (simp; omega)) rfl (by decide) ?_)
        | refine o_extract rfl rfl (by decide) ?_
        | refine o_not rfl (by decide) ?_
        | refine o_add rfl rfl (by omega) (by omega) (by decide) ?_
        | refine o_sub rfl rfl (by omega) (by omega) (by decide) ?_
        | refine o_quo rfl rfl (by omega) (by omega) (by omega) (by decide) ?_
        | refine o_rem rfl rfl (by omega) (by omega) (by decide) ?_
        | refine o_and rfl rfl (by decide) ?_
        | refine o_or rfl rfl (by decide) ?_
        | refine o_andNot rfl rfl (by decide) ?_
        | refine o_shl rfl rfl (by omega) (by decide) ?_
        | refine o_shr rfl rfl (by omega) (by decide) ?_
        | refine o_conv tabOk rfl rfl rfl (by decide) ?_
        | refine o_addw rfl rfl (by decide) ?_
        | refine o_subw rfl rfl (by decide) ?_
        | refine o_mulw rfl rfl (by decide) ?_
        | refine o_eq rfl rfl (by decide) ?_
        | refine o_ne rfl rfl (by decide) ?_
        | refine o_lt rfl rfl (by decide) ?_
        | refine o_le rfl rfl (by decide) ?_
        | refine o_gt rfl rfl (by decide) ?_
        | refine o_ge rfl rfl (by decide) ?_
        | refine o_peq tabOk rfl rfl (by decide) ?_
        | refine o_pne tabOk rfl rfl (by decide) ?_
        | refine o_beq tabOk rfl rfl rfl (by decide) ?_
        | refine o_bne tabOk rfl rfl rfl (by decide) ?_
        | refine o_field0 tabOk rfl rfl rfl rfl rfl (by decide) ?_
        | refine o_field tabOk rfl rfl rfl rfl rfl (by decide) ?_
        | refine o_index0 tabOk rfl rfl rfl rfl (by omega) (by omega) (by decide) ?_
        | refine o_index1 tabOk rfl rfl rfl rfl (by omega) (by omega) (by decide) ?_
        | refine o_len tabOk rfl rfl (by decide) ?_
        | refine o_min rfl rfl (by decide) ?_
        | refine o_max rfl rfl (by decide) ?_
        | refine o_indexs1 tabOk (by first | exact hqn (by omega) | assumption) rfl rfl rfl rfl (by omega) (by omega) (by decide) ?_
        | refine o_load tabOk rfl rfl rfl 0 rfl (by first | exact u32s_at _ (by omega) | rfl) (by decide) ?_
        | refine o_load tabOk rfl rfl rfl 1 rfl (by first | exact u32s_at _ (by omega) | rfl) (by decide) ?_
        | refine o_load tabOk rfl rfl rfl 2 rfl (by first | exact u32s_at _ (by omega) | rfl) (by decide) ?_
        | refine o_loads tabOk (by first | assumption | exact Rds.cons _ (Rds.cons _ (by assumption)) | exact own_rds 0 rfl | exact own_rds 1 rfl | exact own_rds 2 rfl | assumption) rfl rfl rfl (by first | exact u32s_at _ (by omega) | rfl) (by decide) ?_
        | refine o_store rfl tabOk rfl rfl rfl rfl rfl (by first | exact u32s_at _ (by omega) | rfl) (by first | rfl) ?_
        | refine o_make1 rfl tabOk zeroOk rfl rfl rfl rfl rfl (by decide) fun g => ?_
        | refine o_append rfl tabOk zeroOk rfl rfl rfl rfl rfl rfl (by first | assumption | exact Rds.cons _ (Rds.cons _ (by assumption)) | exact own_rds 0 rfl | exact own_rds 1 rfl | exact own_rds 2 rfl | assumption) (by first | rfl | simp) (by first | rfl | simp) (by omega) (by omega) (by decide) fun A' c' => ?_
        | refine o_slice tabOk rfl rfl rfl rfl rfl (by omega) (by omega) (by omega) (by decide) ?_
        | refine o_slicel tabOk rfl rfl rfl rfl (by omega) (by omega) (by omega) (by decide) ?_
        | refine o_sliceh tabOk rfl rfl rfl rfl (by omega) (by omega) (by decide) ?_
        | (refine z_front rfl 1 rfl ?_; refine o_append rfl tabOk zeroOk rfl rfl rfl rfl rfl rfl (by first | assumption | exact Rds.cons _ (Rds.cons _ (by assumption)) | exact own_rds 0 rfl | exact own_rds 1 rfl | exact own_rds 2 rfl | assumption) (by first | rfl | simp) (by first | rfl | simp) (by omega) (by omega) (by decide) fun A' c' => ?_)
        | (refine z_front rfl 2 rfl ?_; refine o_append rfl tabOk zeroOk rfl rfl rfl rfl rfl rfl (by first | assumption | exact Rds.cons _ (Rds.cons _ (by assumption)) | exact own_rds 0 rfl | exact own_rds 1 rfl | exact own_rds 2 rfl | assumption) (by first | rfl | simp) (by first | rfl | simp) (by omega) (by omega) (by decide) fun A' c' => ?_)
        | (refine z_front rfl 3 rfl ?_; refine o_append rfl tabOk zeroOk rfl rfl rfl rfl rfl rfl (by first | assumption | exact Rds.cons _ (Rds.cons _ (by assumption)) | exact own_rds 0 rfl | exact own_rds 1 rfl | exact own_rds 2 rfl | assumption) (by first | rfl | simp) (by first | rfl | simp) (by omega) (by omega) (by decide) fun A' c' => ?_)
        | refine z_guard1 (by decide) rfl rfl (fun hc => ?_) (fun hc => ?_)
        | refine z_guard0 (by decide) rfl rfl (fun hc => ?_) (fun hc => ?_)
        | refine z_guardb (by decide) rfl rfl (fun hc => ?_) (fun hc => ?_)
        | refine c_cond rfl (fun hc => ?_) (fun hc => ?_)
        | refine c_condb rfl (fun hc => ?_) (fun hc => ?_))
  · refine o_call Try.func35 rfl rfl rfl (clearq _ _) (perm_front 2 rfl) (by decide) fun _ _ => ?_
    repeat' (first
      | exact c_meet ([], none, 0) (Nat.zero_le _) ⟨rfl, rfl, rfl, rfl, trivial⟩ (fun w h => (h.mask [true, false, false, true]).nil 38 1)
      | refine c_seq ?_
      | refine c_block ?_
      | refine c_region ?_
      | refine c_mixed mixed (by kernel_rfl) ?_
      | refine c_skip ?_
      | refine c_ret ?_
      | refine c_exit ?_
      | refine z_list ?_
      | refine z_mixed ?_
      | refine x_then ?_
      | refine x_then_ret ?_
      | refine x_then_exit ?_
      | refine x_block _ ?_
      | refine x_block_ret _ ?_
      | refine x_block_exit _ ?_
      | refine x_block_past (by decide) ?_
      | (refine c_true rfl (by first | rfl | exact decide_eq_true rfl | exact decide_eq_true ‹_› | exact decide_eq_true (by omega) | (simp only [Bool.not_eq_true', decide_eq_false_iff_not]; omega) | assumption | (rw [decide_eq_false] <;> (first | omega | rfl)) | (rw [decide_eq_true] <;> (first | omega | rfl)) | (simp; done) | (simp; omega)) ?_)
      | (refine c_false rfl (by first | rfl | exact decide_eq_false (fun h => h rfl) | exact decide_eq_false ‹_› | exact decide_eq_false (by omega) | (simp only [Bool.not_eq_false', decide_eq_true_eq]; omega) | assumption | (rw [decide_eq_false] <;> (first | omega | rfl)) | (rw [decide_eq_true] <;> (first | omega | rfl)) | (simp; done) | (simp; omega)) ?_)
      | (refine z_want rfl rfl (by first | rfl | exact decide_eq_false (fun h => h rfl) | exact decide_eq_true ‹_› | exact decide_eq_false ‹_› | exact decide_eq_true (by omega) | exact decide_eq_false (by omega) | (simp only [Bool.not_eq_true', Bool.not_eq_false', decide_eq_false_iff_not, decide_eq_true_eq]; omega) | assumption | (rw [decide_eq_false] <;> (first | omega | rfl)) | (rw [decide_eq_true] <;> (first | omega | rfl)) | (simp; done) | (simp; omega)) ?_)
      | (refine z_skip (by decide) rfl rfl (by first | rfl | exact decide_eq_false (fun h => h rfl) | exact decide_eq_true ‹_› | exact decide_eq_false ‹_› | exact decide_eq_true (by omega) | exact decide_eq_false (by omega) | (simp only [Bool.not_eq_true', Bool.not_eq_false', decide_eq_false_iff_not, decide_eq_true_eq]; omega) | assumption | (rw [decide_eq_false] <;> (first | omega | rfl)) | (rw [decide_eq_true] <;> (first | omega | rfl)) | (simp; done) | (simp; omega)) ?_)
      | refine z_skipu (by decide) rfl rfl ?_
      | refine o_move rfl (by decide) ?_
      | refine o_assign rfl (by decide) ?_
      | refine o_nil rfl (by decide) ?_
      | (refine o_pick1 rfl (by first | rfl | exact decide_eq_true rfl | exact decide_eq_true ‹_› | exact decide_eq_true (by omega) | (simp only [Bool.not_eq_true', decide_eq_false_iff_not]; omega) | assumption | (rw [decide_eq_false] <;> (first | omega | rfl)) | (rw [decide_eq_true] <;> (first | omega | rfl)) | (simp; done) | (simp; omega)) rfl (by decide) ?_)
      | (refine o_pick0 rfl (by first | rfl | exact decide_eq_false (fun h => h rfl) | exact decide_eq_false ‹_› | exact decide_eq_false (by omega) | (simp only [Bool.not_eq_false', decide_eq_true_eq]; omega) | assumption | (rw [decide_eq_false] <;> (first | omega | rfl)) | (rw [decide_eq_true] <;> (first | omega | rfl)) | (simp; done) | (simp; omega)) rfl (by decide) ?_)
      | refine o_extract rfl rfl (by decide) ?_
      | refine o_not rfl (by decide) ?_
      | refine o_add rfl rfl (by omega) (by omega) (by decide) ?_
      | refine o_sub rfl rfl (by omega) (by omega) (by decide) ?_
      | refine o_quo rfl rfl (by omega) (by omega) (by omega) (by decide) ?_
      | refine o_rem rfl rfl (by omega) (by omega) (by decide) ?_
      | refine o_and rfl rfl (by decide) ?_
      | refine o_or rfl rfl (by decide) ?_
      | refine o_andNot rfl rfl (by decide) ?_
      | refine o_shl rfl rfl (by omega) (by decide) ?_
      | refine o_shr rfl rfl (by omega) (by decide) ?_
      | refine o_conv tabOk rfl rfl rfl (by decide) ?_
      | refine o_addw rfl rfl (by decide) ?_
      | refine o_subw rfl rfl (by decide) ?_
      | refine o_mulw rfl rfl (by decide) ?_
      | refine o_eq rfl rfl (by decide) ?_
      | refine o_ne rfl rfl (by decide) ?_
      | refine o_lt rfl rfl (by decide) ?_
      | refine o_le rfl rfl (by decide) ?_
      | refine o_gt rfl rfl (by decide) ?_
      | refine o_ge rfl rfl (by decide) ?_
      | refine o_peq tabOk rfl rfl (by decide) ?_
      | refine o_pne tabOk rfl rfl (by decide) ?_
      | refine o_beq tabOk rfl rfl rfl (by decide) ?_
      | refine o_bne tabOk rfl rfl rfl (by decide) ?_
      | refine o_field0 tabOk rfl rfl rfl rfl rfl (by decide) ?_
      | refine o_field tabOk rfl rfl rfl rfl rfl (by decide) ?_
      | refine o_index0 tabOk rfl rfl rfl rfl (by omega) (by omega) (by decide) ?_
      | refine o_index1 tabOk rfl rfl rfl rfl (by omega) (by omega) (by decide) ?_
      | refine o_len tabOk rfl rfl (by decide) ?_
      | refine o_min rfl rfl (by decide) ?_
      | refine o_max rfl rfl (by decide) ?_
      | refine o_indexs1 tabOk (by first | exact hqn (by omega) | assumption) rfl rfl rfl rfl (by omega) (by omega) (by decide) ?_
      | refine o_load tabOk rfl rfl rfl 0 rfl (by first | exact u32s_at _ (by omega) | rfl) (by decide) ?_
      | refine o_load tabOk rfl rfl rfl 1 rfl (by first | exact u32s_at _ (by omega) | rfl) (by decide) ?_
      | refine o_load tabOk rfl rfl rfl 2 rfl (by first | exact u32s_at _ (by omega) | rfl) (by decide) ?_
      | refine o_loads tabOk (by first | assumption | exact Rds.cons _ (Rds.cons _ (by assumption)) | exact own_rds 0 rfl | exact own_rds 1 rfl | exact own_rds 2 rfl | assumption) rfl rfl rfl (by first | exact u32s_at _ (by omega) | rfl) (by decide) ?_
      | refine o_store rfl tabOk rfl rfl rfl rfl rfl (by first | exact u32s_at _ (by omega) | rfl) (by first | rfl) ?_
      | refine o_make1 rfl tabOk zeroOk rfl rfl rfl rfl rfl (by decide) fun g => ?_
      | refine o_append rfl tabOk zeroOk rfl rfl rfl rfl rfl rfl (by first | assumption | exact Rds.cons _ (Rds.cons _ (by assumption)) | exact own_rds 0 rfl | exact own_rds 1 rfl | exact own_rds 2 rfl | assumption) (by first | rfl | simp) (by first | rfl | simp) (by omega) (by omega) (by decide) fun A' c' => ?_
      | refine o_slice tabOk rfl rfl rfl rfl rfl (by omega) (by omega) (by omega) (by decide) ?_
      | refine o_slicel tabOk rfl rfl rfl rfl (by omega) (by omega) (by omega) (by decide) ?_
      | refine o_sliceh tabOk rfl rfl rfl rfl (by omega) (by omega) (by decide) ?_
      | (refine z_front rfl 1 rfl ?_; refine o_append rfl tabOk zeroOk rfl rfl rfl rfl rfl rfl (by first | assumption | exact Rds.cons _ (Rds.cons _ (by assumption)) | exact own_rds 0 rfl | exact own_rds 1 rfl | exact own_rds 2 rfl | assumption) (by first | rfl | simp) (by first | rfl | simp) (by omega) (by omega) (by decide) fun A' c' => ?_)
      | (refine z_front rfl 2 rfl ?_; refine o_append rfl tabOk zeroOk rfl rfl rfl rfl rfl rfl (by first | assumption | exact Rds.cons _ (Rds.cons _ (by assumption)) | exact own_rds 0 rfl | exact own_rds 1 rfl | exact own_rds 2 rfl | assumption) (by first | rfl | simp) (by first | rfl | simp) (by omega) (by omega) (by decide) fun A' c' => ?_)
      | (refine z_front rfl 3 rfl ?_; refine o_append rfl tabOk zeroOk rfl rfl rfl rfl rfl rfl (by first | assumption | exact Rds.cons _ (Rds.cons _ (by assumption)) | exact own_rds 0 rfl | exact own_rds 1 rfl | exact own_rds 2 rfl | assumption) (by first | rfl | simp) (by first | rfl | simp) (by omega) (by omega) (by decide) fun A' c' => ?_)
      | refine z_guard1 (by decide) rfl rfl (fun hc => ?_) (fun hc => ?_)
      | refine z_guard0 (by decide) rfl rfl (fun hc => ?_) (fun hc => ?_)
      | refine z_guardb (by decide) rfl rfl (fun hc => ?_) (fun hc => ?_)
      | refine c_cond rfl (fun hc => ?_) (fun hc => ?_)
      | refine c_condb rfl (fun hc => ?_) (fun hc => ?_))
  · exact c_meet (q, A, c) hq ⟨rfl, rfl, rfl, rfl, trivial⟩ (fun w h => h.mask [false, true, true, true])
  · obtain ⟨q', A', c'⟩ := z
    dsimp only at hz ⊢
    refine o_call Try.func36 rfl rfl rfl (lenq _ _) (perm_front 1 rfl) (by decide) fun _ _ => ?_
    repeat' (first
      | refine o_call Try.func37 rfl rfl rfl (roomq _ _) (List.Perm.refl _) (by decide) fun _ _ => ?_
      | refine o_call Try.func39 rfl rfl rfl (allq _ _) (List.Perm.refl _) (by decide) fun x _ => ?_
      | refine o_call Try.func38 rfl rfl rfl (same_c _ _ _ _ q' q' _ (by exact own_rds 0 rfl) (by exact own_rds 2 rfl) (by omega)) (List.Perm.of_eq (List.append_nil _).symm) (by decide) fun _ _ => ?_
      | (exact c_again (i + 1, q', A', c') ⟨by dsimp only; omega, hz⟩ (by dsimp only; omega) ⟨rfl, rfl, rfl, rfl, trivial⟩ (fun w h => (h.front 2 rfl).mask [true, false, true, true]))
      | refine c_seq ?_
      | refine c_block ?_
      | refine c_region ?_
      | refine c_mixed mixed (by kernel_rfl) ?_
      | refine c_skip ?_
      | refine c_ret ?_
      | refine c_exit ?_
      | refine z_list ?_
      | refine z_mixed ?_
      | refine x_then ?_
      | refine x_then_ret ?_
      | refine x_then_exit ?_
      | refine x_block _ ?_
      | refine x_block_ret _ ?_
      | refine x_block_exit _ ?_
      | refine x_block_past (by decide) ?_
      | (refine c_true rfl (by first | rfl | exact decide_eq_true rfl | exact decide_eq_true ‹_› | exact decide_eq_true (by omega) | (simp only [Bool.not_eq_true', decide_eq_false_iff_not]; omega) | assumption | (rw [decide_eq_false] <;> (first | omega | rfl)) | (rw [decide_eq_true] <;> (first | omega | rfl)) | (simp; done) | (simp; omega)) ?_)
      | (refine c_false rfl (by first | rfl | exact decide_eq_false (fun h => h rfl) | exact decide_eq_false ‹_› | exact decide_eq_false (by omega) | (simp only [Bool.not_eq_false', decide_eq_true_eq]; omega) | assumption | (rw [decide_eq_false] <;> (first | omega | rfl)) | (rw [decide_eq_true] <;> (first | omega | rfl)) | (simp; done) | (simp; omega)) ?_)
      | (refine z_want rfl rfl (by first | rfl | exact decide_eq_false (fun h => h rfl) | exact decide_eq_true ‹_› | exact decide_eq_false ‹_› | exact decide_eq_true (by omega) | exact decide_eq_false (by omega) | (simp only [Bool.not_eq_true', Bool.not_eq_false', decide_eq_false_iff_not, decide_eq_true_eq]; omega) | assumption | (rw [decide_eq_false] <;> (first | omega | rfl)) | (rw [decide_eq_true] <;> (first | omega | rfl)) | (simp; done) | (simp; omega)) ?_)
      | (refine z_skip (by decide) rfl rfl (by first | rfl | exact decide_eq_false (fun h => h rfl) | exact decide_eq_true ‹_› | exact decide_eq_false ‹_› | exact decide_eq_true (by omega) | exact decide_eq_false (by omega) | (simp only [Bool.not_eq_true', Bool.not_eq_false', decide_eq_false_iff_not, decide_eq_true_eq]; omega) | assumption | (rw [decide_eq_false] <;> (first | omega | rfl)) | (rw [decide_eq_true] <;> (first | omega | rfl)) | (simp; done) | (simp; omega)) ?_)
      | refine z_skipu (by decide) rfl rfl ?_
      | refine o_move rfl (by decide) ?_
      | refine o_assign rfl (by decide) ?_
      | refine o_nil rfl (by decide) ?_
      | (refine o_pick1 rfl (by first | rfl | exact decide_eq_true rfl | exact decide_eq_true ‹_› | exact decide_eq_true (by omega) | (simp only [Bool.not_eq_true', decide_eq_false_iff_not]; omega) | assumption | (rw [decide_eq_false] <;> (first | omega | rfl)) | (rw [decide_eq_true] <;> (first | omega | rfl)) | (simp; done) | (simp; omega)) rfl (by decide) ?_)
      | (refine o_pick0 rfl (by first | rfl | exact decide_eq_false (fun h => h rfl) | exact decide_eq_false ‹_› | exact decide_eq_false (by omega) | (simp only [Bool.not_eq_false', decide_eq_true_eq]; omega) | assumption | (rw [decide_eq_false] <;> (first | omega | rfl)) | (rw [decide_eq_true] <;> (first | omega | rfl)) | (simp; done) | (simp; omega)) rfl (by decide) ?_)
      | refine o_extract rfl rfl (by decide) ?_
      | refine o_not rfl (by decide) ?_
      | refine o_add rfl rfl (by omega) (by omega) (by decide) ?_
      | refine o_sub rfl rfl (by omega) (by omega) (by decide) ?_
      | refine o_quo rfl rfl (by omega) (by omega) (by omega) (by decide) ?_
      | refine o_rem rfl rfl (by omega) (by omega) (by decide) ?_
      | refine o_and rfl rfl (by decide) ?_
      | refine o_or rfl rfl (by decide) ?_
      | refine o_andNot rfl rfl (by decide) ?_
      | refine o_shl rfl rfl (by omega) (by decide) ?_
      | refine o_shr rfl rfl (by omega) (by decide) ?_
      | refine o_conv tabOk rfl rfl rfl (by decide) ?_
      | refine o_addw rfl rfl (by decide) ?_
      | refine o_subw rfl rfl (by decide) ?_
      | refine o_mulw rfl rfl (by decide) ?_
      | refine o_eq rfl rfl (by decide) ?_
      | refine o_ne rfl rfl (by decide) ?_
      | refine o_lt rfl rfl (by decide) ?_
      | refine o_le rfl rfl (by decide) ?_
      | refine o_gt rfl rfl (by decide) ?_
      | refine o_ge rfl rfl (by decide) ?_
      | refine o_peq tabOk rfl rfl (by decide) ?_
      | refine o_pne tabOk rfl rfl (by decide) ?_
      | refine o_beq tabOk rfl rfl rfl (by decide) ?_
      | refine o_bne tabOk rfl rfl rfl (by decide) ?_
      | refine o_field0 tabOk rfl rfl rfl rfl rfl (by decide) ?_
      | refine o_field tabOk rfl rfl rfl rfl rfl (by decide) ?_
      | refine o_index0 tabOk rfl rfl rfl rfl (by omega) (by omega) (by decide) ?_
      | refine o_index1 tabOk rfl rfl rfl rfl (by omega) (by omega) (by decide) ?_
      | refine o_len tabOk rfl rfl (by decide) ?_
      | refine o_min rfl rfl (by decide) ?_
      | refine o_max rfl rfl (by decide) ?_
      | refine o_indexs1 tabOk (by first | exact hqn (by omega) | assumption) rfl rfl rfl rfl (by omega) (by omega) (by decide) ?_
      | refine o_load tabOk rfl rfl rfl 0 rfl (by first | exact u32s_at _ (by omega) | rfl) (by decide) ?_
      | refine o_load tabOk rfl rfl rfl 1 rfl (by first | exact u32s_at _ (by omega) | rfl) (by decide) ?_
      | refine o_load tabOk rfl rfl rfl 2 rfl (by first | exact u32s_at _ (by omega) | rfl) (by decide) ?_
      | refine o_loads tabOk (by first | assumption | exact Rds.cons _ (Rds.cons _ (by assumption)) | exact own_rds 0 rfl | exact own_rds 1 rfl | exact own_rds 2 rfl | assumption) rfl rfl rfl (by first | exact u32s_at _ (by omega) | rfl) (by decide) ?_
      | refine o_store rfl tabOk rfl rfl rfl rfl rfl (by first | exact u32s_at _ (by omega) | rfl) (by first | rfl) ?_
      | refine o_make1 rfl tabOk zeroOk rfl rfl rfl rfl rfl (by decide) fun g => ?_
      | refine o_append rfl tabOk zeroOk rfl rfl rfl rfl rfl rfl (by first | assumption | exact Rds.cons _ (Rds.cons _ (by assumption)) | exact own_rds 0 rfl | exact own_rds 1 rfl | exact own_rds 2 rfl | assumption) (by first | rfl | simp) (by first | rfl | simp) (by omega) (by omega) (by decide) fun A' c' => ?_
      | refine o_slice tabOk rfl rfl rfl rfl rfl (by omega) (by omega) (by omega) (by decide) ?_
      | refine o_slicel tabOk rfl rfl rfl rfl (by omega) (by omega) (by omega) (by decide) ?_
      | refine o_sliceh tabOk rfl rfl rfl rfl (by omega) (by omega) (by decide) ?_
      | (refine z_front rfl 1 rfl ?_; refine o_append rfl tabOk zeroOk rfl rfl rfl rfl rfl rfl (by first | assumption | exact Rds.cons _ (Rds.cons _ (by assumption)) | exact own_rds 0 rfl | exact own_rds 1 rfl | exact own_rds 2 rfl | assumption) (by first | rfl | simp) (by first | rfl | simp) (by omega) (by omega) (by decide) fun A' c' => ?_)
      | (refine z_front rfl 2 rfl ?_; refine o_append rfl tabOk zeroOk rfl rfl rfl rfl rfl rfl (by first | assumption | exact Rds.cons _ (Rds.cons _ (by assumption)) | exact own_rds 0 rfl | exact own_rds 1 rfl | exact own_rds 2 rfl | assumption) (by first | rfl | simp) (by first | rfl | simp) (by omega) (by omega) (by decide) fun A' c' => ?_)
      | (refine z_front rfl 3 rfl ?_; refine o_append rfl tabOk zeroOk rfl rfl rfl rfl rfl rfl (by first | assumption | exact Rds.cons _ (Rds.cons _ (by assumption)) | exact own_rds 0 rfl | exact own_rds 1 rfl | exact own_rds 2 rfl | assumption) (by first | rfl | simp) (by first | rfl | simp) (by omega) (by omega) (by decide) fun A' c' => ?_)
      | refine z_guard1 (by decide) rfl rfl (fun hc => ?_) (fun hc => ?_)
      | refine z_guard0 (by decide) rfl rfl (fun hc => ?_) (fun hc => ?_)
      | refine z_guardb (by decide) rfl rfl (fun hc => ?_) (fun hc => ?_)
      | refine c_cond rfl (fun hc => ?_) (fun hc => ?_)
      | refine c_condb rfl (fun hc => ?_) (fun hc => ?_))
end Go.Proofs.Ytjejnlfbonpfaaa
