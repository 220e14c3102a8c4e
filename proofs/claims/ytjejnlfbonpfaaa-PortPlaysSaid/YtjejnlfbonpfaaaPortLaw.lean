/-
The laws of package port, walked.
-/
import Derived.Test.YtjejnlfbonpfaaaPortQ
namespace Go.Proofs.Ytjejnlfbonpfaaa
set_option linter.unusedVariables false
set_option linter.unusedSimpArgs false
open Eng
attribute [local irreducible] Eng.Z Eng.S Eng.arr portCs Eng.some_ Eng.own Eng.cells Eng.old
theorem drop_cons (q : List Int) {k : Nat} (h : k < q.length) : q.drop k = q.getD k 0 :: q.drop (k + 1) := by
  rw [List.drop_eq_getElem_cons h]; simp [h]
theorem awake09 : Does Try.prog 22 [] [] (fun _ : Unit => True) (fun _ => .bool true) (fun _ => []) := by
  intro w hw
  refine f_enter Try.func22 rfl Try.ntmps22 rfl hw ?_
  repeat' (first
    | exact f_ret1 rfl rfl () trivial rfl (fun w h => h.sub (List.nil_sublist _))
    | refine o_build (v := .agg (portCs (fun _ => 0) 0 0).toArray) rfl (fun _ => by kernel_rfl) (by decide) ?_
    | ((refine o_boxa rfl rfl (by decide) fun g => ?_; refine Z.heapx rfl (hp' := [portQ g []]) ?_ (fun w h => h.hide (fun _ => 0, 0) (Ring.nil _) rfl)))
    | refine o_call Try.func19 rfl rfl rfl (sendq_room _ _ _ (by decide)) (List.Perm.refl _) (by decide) fun _ _ => ?_
    | refine o_call Try.func20 rfl rfl rfl (recvq_some _ [2] 1) (List.Perm.refl _) (by decide) fun _ _ => ?_
    | refine o_call Try.func39 rfl rfl rfl (allq _ [2]) (List.Perm.refl _) (by decide) fun x _ => ?_
    | refine o_call Try.func38 rfl rfl rfl (same_c _ _ _ _ [2] [2] _ (by exact own_rds 1 rfl) (by exact own_rds 0 rfl) (by decide)) (List.Perm.of_eq (List.append_nil _).symm) (by decide) fun _ _ => ?_
    | refine c_seq ?_
    | refine c_block ?_
    | refine c_region ?_
    | refine c_mixed mixed (by kernel_rfl) ?_
    | refine c_skip ?_
    | refine c_ret ?_
    | refine c_exit ?_
    | refine z_list ?_
    | refine z_mixed ?_
    | refine x_then ?_
    | refine x_then_ret ?_
    | refine x_then_exit ?_
    | refine x_block _ ?_
    | refine x_block_ret _ ?_
    | refine x_block_exit _ ?_
    | refine x_block_past (by decide) ?_
    | (refine c_true rfl (by first | rfl | exact decide_eq_true ‹_› | exact decide_eq_true (by omega) | (simp only [Bool.not_eq_true', decide_eq_false_iff_not]; omega) | assumption) ?_)
    | (refine c_false rfl (by first | rfl | exact decide_eq_false ‹_› | exact decide_eq_false (by omega) | (simp only [Bool.not_eq_false', decide_eq_true_eq]; omega) | assumption) ?_)
    | (refine z_want rfl rfl (by first | rfl | exact decide_eq_true ‹_› | exact decide_eq_false ‹_› | exact decide_eq_true (by omega) | exact decide_eq_false (by omega) | (simp only [Bool.not_eq_true', Bool.not_eq_false', decide_eq_false_iff_not, decide_eq_true_eq]; omega) | assumption) ?_)
    | (refine z_skip (by decide) rfl rfl (by first | rfl | exact decide_eq_true ‹_› | exact decide_eq_false ‹_› | exact decide_eq_true (by omega) | exact decide_eq_false (by omega) | (simp only [Bool.not_eq_true', Bool.not_eq_false', decide_eq_false_iff_not, decide_eq_true_eq]; omega) | assumption) ?_)
    | refine z_skipu (by decide) rfl rfl ?_
    | refine o_move rfl (by decide) ?_
    | refine o_assign rfl (by decide) ?_
    | refine o_nil rfl (by decide) ?_
    | (refine o_pick1 rfl (by first | rfl | exact decide_eq_true ‹_› | exact decide_eq_true (by omega) | (simp only [Bool.not_eq_true', decide_eq_false_iff_not]; omega) | assumption) rfl (by decide) ?_)
    | (refine o_pick0 rfl (by first | rfl | exact decide_eq_false ‹_› | exact decide_eq_false (by omega) | (simp only [Bool.not_eq_false', decide_eq_true_eq]; omega) | assumption) rfl (by decide) ?_)
    | refine o_extract rfl rfl (by decide) ?_
    | refine o_not rfl (by decide) ?_
    | refine o_add rfl rfl (by omega) (by omega) (by decide) ?_
    | refine o_sub rfl rfl (by omega) (by omega) (by decide) ?_
    | refine o_quo rfl rfl (by omega) (by omega) (by omega) (by decide) ?_
    | refine o_rem rfl rfl (by omega) (by omega) (by decide) ?_
    | refine o_and rfl rfl (by decide) ?_
    | refine o_or rfl rfl (by decide) ?_
    | refine o_andNot rfl rfl (by decide) ?_
    | refine o_shl rfl rfl (by omega) (by decide) ?_
    | refine o_shr rfl rfl (by omega) (by decide) ?_
    | refine o_conv tabOk rfl rfl rfl (by decide) ?_
    | refine o_addw rfl rfl (by decide) ?_
    | refine o_subw rfl rfl (by decide) ?_
    | refine o_mulw rfl rfl (by decide) ?_
    | refine o_eq rfl rfl (by decide) ?_
    | refine o_ne rfl rfl (by decide) ?_
    | refine o_lt rfl rfl (by decide) ?_
    | refine o_le rfl rfl (by decide) ?_
    | refine o_gt rfl rfl (by decide) ?_
    | refine o_ge rfl rfl (by decide) ?_
    | refine o_peq tabOk rfl rfl (by decide) ?_
    | refine o_pne tabOk rfl rfl (by decide) ?_
    | refine o_beq tabOk rfl rfl rfl (by decide) ?_
    | refine o_bne tabOk rfl rfl rfl (by decide) ?_
    | refine o_field0 tabOk rfl rfl rfl rfl rfl (by decide) ?_
    | refine o_field tabOk rfl rfl rfl rfl rfl (by decide) ?_
    | refine o_index0 tabOk rfl rfl rfl rfl (by omega) (by omega) (by decide) ?_
    | refine o_index1 tabOk rfl rfl rfl rfl (by omega) (by omega) (by decide) ?_
    | refine o_len tabOk rfl rfl (by decide) ?_
    | refine o_indexs1 tabOk (by first | assumption | exact hne (by omega) | assumption) rfl rfl rfl rfl (by omega) (by omega) (by decide) ?_
    | refine o_load tabOk rfl rfl rfl 0 rfl (by first | exact u32s_at _ (by omega) | rfl) (by decide) ?_
    | refine o_load tabOk rfl rfl rfl 1 rfl (by first | exact u32s_at _ (by omega) | rfl) (by decide) ?_
    | refine o_load tabOk rfl rfl rfl 2 rfl (by first | exact u32s_at _ (by omega) | rfl) (by decide) ?_
    | refine o_loads tabOk (by first | assumption | exact Rds.cons _ (by assumption) | exact Rds.cons _ (Rds.cons _ (by assumption)) | exact own_rds 0 rfl | exact own_rds 1 rfl | exact own_rds 2 rfl) rfl rfl rfl (by first | exact u32s_at _ (by omega) | rfl) (by decide) ?_
    | refine o_store rfl tabOk rfl rfl rfl rfl rfl (by first | exact u32s_at _ (by omega) | rfl) (by first | rfl) ?_
    | refine o_make1 rfl tabOk zeroOk rfl rfl rfl rfl rfl (by decide) fun g => ?_
    | refine o_append rfl tabOk zeroOk rfl rfl rfl rfl rfl rfl (by first | assumption | exact Rds.cons _ (by assumption) | exact Rds.cons _ (Rds.cons _ (by assumption)) | exact own_rds 0 rfl | exact own_rds 1 rfl | exact own_rds 2 rfl) (by first | rfl | simp) (by first | rfl | simp) (by omega) (by omega) (by decide) fun A' c' => ?_
    | refine o_slice tabOk rfl rfl rfl rfl rfl (by omega) (by omega) (by omega) (by decide) ?_
    | refine o_slicel tabOk rfl rfl rfl rfl (by omega) (by omega) (by omega) (by decide) ?_
    | refine o_sliceh tabOk rfl rfl rfl rfl (by omega) (by omega) (by decide) ?_
    | (refine z_front rfl 1 rfl ?_; refine o_append rfl tabOk zeroOk rfl rfl rfl rfl rfl rfl (by first | assumption | exact Rds.cons _ (by assumption) | exact Rds.cons _ (Rds.cons _ (by assumption)) | exact own_rds 0 rfl | exact own_rds 1 rfl | exact own_rds 2 rfl) (by first | rfl | simp) (by first | rfl | simp) (by omega) (by omega) (by decide) fun A' c' => ?_)
    | (refine z_front rfl 2 rfl ?_; refine o_append rfl tabOk zeroOk rfl rfl rfl rfl rfl rfl (by first | assumption | exact Rds.cons _ (by assumption) | exact Rds.cons _ (Rds.cons _ (by assumption)) | exact own_rds 0 rfl | exact own_rds 1 rfl | exact own_rds 2 rfl) (by first | rfl | simp) (by first | rfl | simp) (by omega) (by omega) (by decide) fun A' c' => ?_)
    | (refine z_front rfl 3 rfl ?_; refine o_append rfl tabOk zeroOk rfl rfl rfl rfl rfl rfl (by first | assumption | exact Rds.cons _ (by assumption) | exact Rds.cons _ (Rds.cons _ (by assumption)) | exact own_rds 0 rfl | exact own_rds 1 rfl | exact own_rds 2 rfl) (by first | rfl | simp) (by first | rfl | simp) (by omega) (by omega) (by decide) fun A' c' => ?_)
    | refine z_guard1 (by decide) rfl rfl (fun hc => ?_) (fun hc => ?_)
    | refine z_guard0 (by decide) rfl rfl (fun hc => ?_) (fun hc => ?_)
    | refine z_guardb (by decide) rfl rfl (fun hc => ?_) (fun hc => ?_)
    | refine c_cond rfl (fun hc => ?_) (fun hc => ?_)
    | refine c_condb rfl (fun hc => ?_) (fun hc => ?_))
theorem sendall_q (g : Nat) (q xs : List Int) (hq : q = xs.take 64) (A : Option Addr) (c : Nat) (W : World) (hrd : Rds [old W] A (u32s xs)) (hx : xs.length ≤ 9223372036854775807) :
    Does Try.prog 21 [pp g, .slice A xs.length c] [portQ g [], old W] (fun _ : Unit => True) (fun _ => .int .i64 q.length) (fun _ => [portQ g q, old W]) :=
  (sendall_c g [] xs A c [old W] hrd hx (by decide)).post fun _ _ => ⟨(), trivial, int_eq (by subst hq; simp; omega), fun B w h => by subst hq; exact h⟩
theorem recvq_drop (b : Nat) (q : List Int) (k : Nat) (h : k < q.length) : Does Try.prog 20 [pp b] [portQ b (q.drop k)] (fun _ : Unit => True) (fun _ => .tuple #[.int .u32 (q.getD k 0), .bool true]) (fun _ => [portQ b (q.drop (k + 1))]) := by
  rw [drop_cons q h]; exact recvq_some b _ _
theorem recvq_end (b : Nat) (q : List Int) (k : Nat) (h : q.length ≤ k) : Does Try.prog 20 [pp b] [portQ b (q.drop k)] (fun _ : Unit => True) (fun _ => .tuple #[.int .u32 0, .bool false]) (fun _ => [portQ b []]) := by
  rw [List.drop_eq_nil_of_le h]; exact recvq_none b
set_option maxHeartbeats 4000000 in
theorem portOrder (W : World) (A : Option Addr) (c : Nat) (xs : List Int) (skip : Int) (hrd : Rds [old W] A (u32s xs)) (hx : xs.length ≤ 9223372036854775807) :
    Does Try.prog 4 [.slice A xs.length c, .int .i64 skip] [old W] (fun _ : Unit => True) (fun _ => .bool true) (fun _ => [old W]) := by
  intro w hw
  have hne : 0 < xs.length → A ≠ none := fun h => hrd.ne hw (by simpa [u32s] using h)
  have hsk := and63 skip
  obtain ⟨q, hq⟩ : ∃ q, q = xs.take 64 := ⟨_, rfl⟩
  have hql : q.length = min 64 xs.length := by rw [hq]; simp
  have hqi : ∀ i, i < q.length → q.getD i 0 = xs.getD i 0 := fun i hi => by
    subst hq; simp at hi; simp [List.getElem?_take, show i < 64 by omega]
  refine f_enter Try.func4 rfl Try.ntmps4 rfl hw ?_
  repeat' (first
    | refine o_build (v := .agg (portCs (fun _ => 0) 0 0).toArray) rfl (fun _ => by kernel_rfl) (by decide) ?_
    | ((refine o_boxa rfl rfl (by decide) fun g => ?_; refine Z.heapx rfl (hp' := [portQ g [], old W]) ?_ (fun w h => h.hide (fun _ => 0, 0) (Ring.nil _) rfl)))
    | (refine c_loop (X := Nat) (fun k => (k : Int) ≤ bitv .and .i64 skip 63) (fun k => [(0, .slice A xs.length c), (1, .int .i64 skip), (5, pp g), (6, .int .i64 k)]) (fun k => [portQ g [], old W]) (fun k => (bitv .and .i64 skip 63 - k).toNat) 0 (by omega) ⟨rfl, rfl, rfl, rfl, trivial⟩ (fun w h => h) (fun k hk => ?_))
    | ((refine c_loop (X := Nat) (fun k => k ≤ q.length) (fun k => [(0, .slice A xs.length c), (5, pp g), (7, .int .i64 q.length), (8, .int .i64 k)]) (fun k => [portQ g (q.drop k), old W]) (fun k => q.length - k) 0 (by omega) ⟨rfl, rfl, rfl, rfl, trivial⟩ (fun w h => h) (fun k hk => ?_); have hqk : k < q.length → q.getD k 0 = xs.getD (k : Int).toNat 0 := fun h => hqi k h))
    | refine o_call Try.func19 rfl rfl rfl (sendq_room _ _ _ (by decide)) (List.Perm.refl _) (by decide) fun _ _ => ?_
    | refine o_call Try.func20 rfl rfl rfl (recvq_some _ _ _) (List.Perm.refl _) (by decide) fun _ _ => ?_
    | refine o_call Try.func20 rfl rfl rfl (recvq_drop _ q k (by omega)) (List.Perm.refl _) (by decide) fun _ _ => ?_
    | refine o_call Try.func20 rfl rfl rfl (recvq_end _ q k (by omega)) (List.Perm.refl _) (by decide) fun _ _ => ?_
    | refine o_call Try.func21 rfl rfl rfl (sendall_q _ q xs hq A c W hrd hx) (List.Perm.refl _) (by decide) fun _ _ => ?_
    | refine o_call Try.func22 rfl rfl rfl awake09 (List.Perm.refl _) (by decide) fun _ _ => ?_
    | exact c_again (k + 1) (by omega) (by omega) ⟨rfl, rfl, rfl, rfl, trivial⟩ (fun w h => h)
    | exact f_ret1 rfl rfl () trivial rfl (fun w h => h.mask [false, true])
    | refine c_seq ?_
    | refine c_block ?_
    | refine c_region ?_
    | refine c_mixed mixed (by kernel_rfl) ?_
    | refine c_skip ?_
    | refine c_ret ?_
    | refine c_exit ?_
    | refine z_list ?_
    | refine z_mixed ?_
    | refine x_then ?_
    | refine x_then_ret ?_
    | refine x_then_exit ?_
    | refine x_block _ ?_
    | refine x_block_ret _ ?_
    | refine x_block_exit _ ?_
    | refine x_block_past (by decide) ?_
    | (refine c_true rfl (by first | rfl | exact decide_eq_true ‹_› | exact decide_eq_true (by omega) | (simp only [Bool.not_eq_true', decide_eq_false_iff_not]; omega) | assumption) ?_)
    | (refine c_false rfl (by first | rfl | exact decide_eq_false ‹_› | exact decide_eq_false (by omega) | (simp only [Bool.not_eq_false', decide_eq_true_eq]; omega) | assumption) ?_)
    | (refine z_want rfl rfl (by first | rfl | exact decide_eq_true ‹_› | exact decide_eq_false ‹_› | exact decide_eq_true (by omega) | exact decide_eq_false (by omega) | (simp only [Bool.not_eq_true', Bool.not_eq_false', decide_eq_false_iff_not, decide_eq_true_eq]; omega) | assumption) ?_)
    | (refine z_skip (by decide) rfl rfl (by first | rfl | exact decide_eq_true ‹_› | exact decide_eq_false ‹_› | exact decide_eq_true (by omega) | exact decide_eq_false (by omega) | (simp only [Bool.not_eq_true', Bool.not_eq_false', decide_eq_false_iff_not, decide_eq_true_eq]; omega) | assumption) ?_)
    | refine z_skipu (by decide) rfl rfl ?_
    | refine o_move rfl (by decide) ?_
    | refine o_assign rfl (by decide) ?_
    | refine o_nil rfl (by decide) ?_
    | (refine o_pick1 rfl (by first | rfl | exact decide_eq_true ‹_› | exact decide_eq_true (by omega) | (simp only [Bool.not_eq_true', decide_eq_false_iff_not]; omega) | assumption) rfl (by decide) ?_)
    | (refine o_pick0 rfl (by first | rfl | exact decide_eq_false ‹_› | exact decide_eq_false (by omega) | (simp only [Bool.not_eq_false', decide_eq_true_eq]; omega) | assumption) rfl (by decide) ?_)
    | refine o_extract rfl rfl (by decide) ?_
    | refine o_not rfl (by decide) ?_
    | refine o_add rfl rfl (by omega) (by omega) (by decide) ?_
    | refine o_sub rfl rfl (by omega) (by omega) (by decide) ?_
    | refine o_quo rfl rfl (by omega) (by omega) (by omega) (by decide) ?_
    | refine o_rem rfl rfl (by omega) (by omega) (by decide) ?_
    | refine o_and rfl rfl (by decide) ?_
    | refine o_or rfl rfl (by decide) ?_
    | refine o_andNot rfl rfl (by decide) ?_
    | refine o_shl rfl rfl (by omega) (by decide) ?_
    | refine o_shr rfl rfl (by omega) (by decide) ?_
    | refine o_conv tabOk rfl rfl rfl (by decide) ?_
    | refine o_addw rfl rfl (by decide) ?_
    | refine o_subw rfl rfl (by decide) ?_
    | refine o_mulw rfl rfl (by decide) ?_
    | refine o_eq rfl rfl (by decide) ?_
    | refine o_ne rfl rfl (by decide) ?_
    | refine o_lt rfl rfl (by decide) ?_
    | refine o_le rfl rfl (by decide) ?_
    | refine o_gt rfl rfl (by decide) ?_
    | refine o_ge rfl rfl (by decide) ?_
    | refine o_peq tabOk rfl rfl (by decide) ?_
    | refine o_pne tabOk rfl rfl (by decide) ?_
    | refine o_beq tabOk rfl rfl rfl (by decide) ?_
    | refine o_bne tabOk rfl rfl rfl (by decide) ?_
    | refine o_field0 tabOk rfl rfl rfl rfl rfl (by decide) ?_
    | refine o_field tabOk rfl rfl rfl rfl rfl (by decide) ?_
    | refine o_index0 tabOk rfl rfl rfl rfl (by omega) (by omega) (by decide) ?_
    | refine o_index1 tabOk rfl rfl rfl rfl (by omega) (by omega) (by decide) ?_
    | refine o_len tabOk rfl rfl (by decide) ?_
    | refine o_indexs1 tabOk (by first | assumption | exact hne (by omega) | assumption) rfl rfl rfl rfl (by omega) (by omega) (by decide) ?_
    | refine o_load tabOk rfl rfl rfl 0 rfl (by first | exact u32s_at _ (by omega) | rfl) (by decide) ?_
    | refine o_load tabOk rfl rfl rfl 1 rfl (by first | exact u32s_at _ (by omega) | rfl) (by decide) ?_
    | refine o_load tabOk rfl rfl rfl 2 rfl (by first | exact u32s_at _ (by omega) | rfl) (by decide) ?_
    | refine o_loads tabOk (by first | assumption | exact Rds.cons _ (by assumption) | exact Rds.cons _ (Rds.cons _ (by assumption)) | exact own_rds 0 rfl | exact own_rds 1 rfl | exact own_rds 2 rfl) rfl rfl rfl (by first | exact u32s_at _ (by omega) | rfl) (by decide) ?_
    | refine o_store rfl tabOk rfl rfl rfl rfl rfl (by first | exact u32s_at _ (by omega) | rfl) (by first | rfl) ?_
    | refine o_make1 rfl tabOk zeroOk rfl rfl rfl rfl rfl (by decide) fun g => ?_
    | refine o_append rfl tabOk zeroOk rfl rfl rfl rfl rfl rfl (by first | assumption | exact Rds.cons _ (by assumption) | exact Rds.cons _ (Rds.cons _ (by assumption)) | exact own_rds 0 rfl | exact own_rds 1 rfl | exact own_rds 2 rfl) (by first | rfl | simp) (by first | rfl | simp) (by omega) (by omega) (by decide) fun A' c' => ?_
    | refine o_slice tabOk rfl rfl rfl rfl rfl (by omega) (by omega) (by omega) (by decide) ?_
    | refine o_slicel tabOk rfl rfl rfl rfl (by omega) (by omega) (by omega) (by decide) ?_
    | refine o_sliceh tabOk rfl rfl rfl rfl (by omega) (by omega) (by decide) ?_
    | (refine z_front rfl 1 rfl ?_; refine o_append rfl tabOk zeroOk rfl rfl rfl rfl rfl rfl (by first | assumption | exact Rds.cons _ (by assumption) | exact Rds.cons _ (Rds.cons _ (by assumption)) | exact own_rds 0 rfl | exact own_rds 1 rfl | exact own_rds 2 rfl) (by first | rfl | simp) (by first | rfl | simp) (by omega) (by omega) (by decide) fun A' c' => ?_)
    | (refine z_front rfl 2 rfl ?_; refine o_append rfl tabOk zeroOk rfl rfl rfl rfl rfl rfl (by first | assumption | exact Rds.cons _ (by assumption) | exact Rds.cons _ (Rds.cons _ (by assumption)) | exact own_rds 0 rfl | exact own_rds 1 rfl | exact own_rds 2 rfl) (by first | rfl | simp) (by first | rfl | simp) (by omega) (by omega) (by decide) fun A' c' => ?_)
    | (refine z_front rfl 3 rfl ?_; refine o_append rfl tabOk zeroOk rfl rfl rfl rfl rfl rfl (by first | assumption | exact Rds.cons _ (by assumption) | exact Rds.cons _ (Rds.cons _ (by assumption)) | exact own_rds 0 rfl | exact own_rds 1 rfl | exact own_rds 2 rfl) (by first | rfl | simp) (by first | rfl | simp) (by omega) (by omega) (by decide) fun A' c' => ?_)
    | refine z_guard1 (by decide) rfl rfl (fun hc => ?_) (fun hc => ?_)
    | refine z_guard0 (by decide) rfl rfl (fun hc => ?_) (fun hc => ?_)
    | refine z_guardb (by decide) rfl rfl (fun hc => ?_) (fun hc => ?_)
    | refine c_cond rfl (fun hc => ?_) (fun hc => ?_)
    | refine c_condb rfl (fun hc => ?_) (fun hc => ?_))
end Go.Proofs.Ytjejnlfbonpfaaa
