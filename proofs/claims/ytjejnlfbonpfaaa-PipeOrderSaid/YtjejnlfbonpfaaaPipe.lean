/-
Walks over package pipe: what each function does to a pipe, as a list of bytes.
-/
import Derived.Test.YtjejnlfbonpfaaaPortQ
namespace Go.Proofs.Ytjejnlfbonpfaaa
set_option linter.unusedVariables false
set_option linter.unusedSimpArgs false
open Eng
attribute [local irreducible] Eng.Z Eng.S

def pipeCs (r : Nat → Int) (a n : Int) (f g : Bool) : List Value := arr 64 (fun i => .int .u8 (r i)) ++ [.int .i64 a, .int .i64 n, .bool f, .bool g]
abbrev pipeC (b : Nat) (r : Nat → Int) (a n : Int) (f g : Bool) : Chunk := cells b 83 (pipeCs r a n f g)
section
variable (r : Nat → Int) (a n : Int) (f g : Bool)
theorem pipe_at : (pipeCs r a n f g)[64]? = some (.int .i64 a) := by unfold pipeCs; rw [arr_getr (by omega)]; rfl
theorem pipe_len : (pipeCs r a n f g)[65]? = some (.int .i64 n) := by unfold pipeCs; rw [arr_getr (by omega)]; rfl
theorem pipe_rd : (pipeCs r a n f g)[66]? = some (.bool f) := by unfold pipeCs; rw [arr_getr (by omega)]; rfl
theorem pipe_wr : (pipeCs r a n f g)[67]? = some (.bool g) := by unfold pipeCs; rw [arr_getr (by omega)]; rfl
theorem pipe_el {i : Nat} (hi : i < 64) : (pipeCs r a n f g)[i]? = some (.int .u8 (r i)) := by unfold pipeCs; rw [arr_getl hi]
theorem pipe_set {i : Nat} (hi : i < 64) (x : Int) : (pipeCs r a n f g).set i (.int .u8 x) = pipeCs (upd r i x) a n f g := by
  unfold pipeCs; rw [arr_setl hi, upd_int]
theorem pipe_set_at (m : Int) : (pipeCs r a n f g).set 64 (.int .i64 m) = pipeCs r m n f g := by unfold pipeCs; rw [arr_setr (by omega)]; rfl
theorem pipe_set_len (m : Int) : (pipeCs r a n f g).set 65 (.int .i64 m) = pipeCs r a m f g := by unfold pipeCs; rw [arr_setr (by omega)]; rfl
theorem pipe_set_rd (m : Bool) : (pipeCs r a n f g).set 66 (.bool m) = pipeCs r a n m g := by unfold pipeCs; rw [arr_setr (by omega)]; rfl
theorem pipe_set_wr (m : Bool) : (pipeCs r a n f g).set 67 (.bool m) = pipeCs r a n f m := by unfold pipeCs; rw [arr_setr (by omega)]; rfl
end
def u8s (l : List Int) : List Value := l.map (Value.int .u8)
theorem u8s_at (l : List Int) {i : Nat} (h : i < l.length) : (u8s l)[i]? = some (.int .u8 (l.getD i 0)) := ints_at l h
abbrev pipeQ (b : Nat) (q : List Int) (f g : Bool) : Chunk := some_ b (fun y : (Nat → Int) × Int => Ring y.1 y.2 q) 83 (fun y => pipeCs y.1 y.2 q.length f g)
theorem Ring.skip {r : Nat → Int} {a x : Int} {q : List Int} (h : Ring r a (x :: q)) : r a.toNat = x ∧ Ring r ((a + 1) % 64) q := by
  obtain ⟨h0, h1, h2, h3⟩ := h
  simp at h2
  refine ⟨?_, by omega, by omega, by omega, fun i hi => ?_⟩
  · have := h3 0 (by simp)
    rw [show ((a + (0 : Nat)) % 64).toNat = a.toNat by omega] at this
    simpa using this
  · have := h3 (i + 1) (by simp; omega)
    rw [show (((a + 1) % 64 + i) % 64).toNat = ((a + (i + 1 : Nat)) % 64).toNat by omega, this]
    simp
theorem Ring.none {r : Nat → Int} {a : Int} {q : List Int} (h : Ring r a q) : Ring r a [] := ⟨h.lo, h.hi, by simp, fun i hi => by simp at hi⟩

theorem pipe_new : Does Try.prog 28 [] [] (fun _ : Nat => True) (fun g => pp g) (fun g => [pipeQ g [] true true]) := by
  intro w hw
  refine f_enter Try.func28 rfl Try.ntmps28 rfl hw ?_
  repeat' (first
   | (refine s_is ?_; first
   | (refine s_isret ?_; first
   | exact f_ret1 rfl rfl g trivial rfl (fun w h => h.hide (fun _ => 0, 0) (Ring.nil _) rfl))
   | (refine s_isw ?_; first
   | refine c_seq ?_
   | refine c_block ?_
   | refine c_region ?_
   | refine c_mixed mixed (by kernel_rfl) ?_
   | refine c_skip ?_
   | refine c_ret ?_
   | refine c_exit ?_
   | (refine s_iscond ?_; first
   | (refine c_true rfl (by first | with_reducible rfl | with_reducible assumption | ((with_reducible refine decide_eq_true ?_); first | with_reducible rfl | with_reducible assumption | omega)) ?_)
   | (refine c_false rfl (by first | with_reducible rfl | with_reducible assumption | ((with_reducible refine decide_eq_false ?_); first | with_reducible assumption | omega)) ?_)
   | (refine c_true rfl (by first | (simp only [Bool.not_eq_true', decide_eq_false_iff_not]; omega) | (with_reducible assumption) | (rw [decide_eq_false] <;> (first | omega | with_reducible rfl)) | (rw [decide_eq_true] <;> (first | omega | with_reducible rfl)) | (simp; done) | (simp; omega)) ?_)
   | (refine c_false rfl (by first | (simp only [Bool.not_eq_false', decide_eq_true_eq]; omega) | (with_reducible assumption) | (rw [decide_eq_false] <;> (first | omega | with_reducible rfl)) | (rw [decide_eq_true] <;> (first | omega | with_reducible rfl)) | (simp; done) | (simp; omega)) ?_)
   | refine c_cond rfl (fun hc => ?_) (fun hc => ?_)
   | refine c_condb rfl (fun hc => ?_) (fun hc => ?_)))
   | refine x_then ?_
   | refine x_then_ret ?_
   | refine x_then_exit ?_
   | refine x_block _ ?_
   | refine x_block_ret _ ?_
   | refine x_block_exit _ ?_
   | refine x_block_past (by decide) ?_
   | refine z_tailm ?_)
   | (refine z_isnil ?_; first
   | refine z_list ?_
   | refine z_mixed ?_
   | refine z_mono0 ?_
   | refine z_mono1 (by decide) fun g => ?_
   | refine z_mono2 (by decide) (by decide) fun g g' => ?_
   | refine z_mixedx ?_
   | refine z_quiet ?_)
   | (refine z_isop ?_; first
   | refine o_build (v := .agg (pipeCs (fun _ => 0) 0 0 true true).toArray) rfl (fun _ => by kernel_rfl) (by decide) ?_
   | refine o_boxa rfl rfl (by decide) fun g => ?_
   | refine o_move rfl (by decide) ?_
   | refine o_assign rfl (by decide) ?_
   | refine o_nil rfl (by decide) ?_
   | refine o_extract rfl rfl (by decide) ?_
   | refine o_not rfl (by decide) ?_
   | refine o_field0 tabOk rfl rfl rfl rfl rfl (by decide) ?_
   | refine o_field tabOk rfl rfl rfl rfl rfl (by decide) ?_
   | refine o_conv tabOk rfl rfl rfl (by decide) ?_))
section
variable (b : Nat) (r : Nat → Int) (a n x : Int) (q : List Int)
theorem plen_c (f g : Bool) : Does Try.prog 32 [pp b] [pipeC b r a n f g] (fun _ : Unit => True) (fun _ => .int .i64 n) (fun _ => [pipeC b r a n f g]) := by
  intro w hw
  refine f_enter Try.func32 rfl Try.ntmps32 rfl hw ?_
  repeat' (first
   | (refine s_is ?_; first
   | (refine s_isret ?_; first
   | exact f_ret1 rfl rfl () trivial rfl (fun w h => h))
   | (refine s_isw ?_; first
   | refine c_seq ?_
   | refine c_block ?_
   | refine c_region ?_
   | refine c_mixed mixed (by kernel_rfl) ?_
   | refine c_skip ?_
   | refine c_ret ?_
   | refine c_exit ?_
   | (refine s_iscond ?_; first
   | (refine c_true rfl (by first | with_reducible rfl | with_reducible assumption | ((with_reducible refine decide_eq_true ?_); first | with_reducible rfl | with_reducible assumption | omega)) ?_)
   | (refine c_false rfl (by first | with_reducible rfl | with_reducible assumption | ((with_reducible refine decide_eq_false ?_); first | with_reducible assumption | omega)) ?_)
   | (refine c_true rfl (by first | (simp only [Bool.not_eq_true', decide_eq_false_iff_not]; omega) | (with_reducible assumption) | (rw [decide_eq_false] <;> (first | omega | with_reducible rfl)) | (rw [decide_eq_true] <;> (first | omega | with_reducible rfl)) | (simp; done) | (simp; omega)) ?_)
   | (refine c_false rfl (by first | (simp only [Bool.not_eq_false', decide_eq_true_eq]; omega) | (with_reducible assumption) | (rw [decide_eq_false] <;> (first | omega | with_reducible rfl)) | (rw [decide_eq_true] <;> (first | omega | with_reducible rfl)) | (simp; done) | (simp; omega)) ?_)
   | refine c_cond rfl (fun hc => ?_) (fun hc => ?_)
   | refine c_condb rfl (fun hc => ?_) (fun hc => ?_)))
   | refine x_then ?_
   | refine x_then_ret ?_
   | refine x_then_exit ?_
   | refine x_block _ ?_
   | refine x_block_ret _ ?_
   | refine x_block_exit _ ?_
   | refine x_block_past (by decide) ?_
   | refine z_tailm ?_)
   | (refine z_isnil ?_; first
   | refine z_list ?_
   | refine z_mixed ?_
   | refine z_mono0 ?_
   | refine z_mono1 (by decide) fun g => ?_
   | refine z_mono2 (by decide) (by decide) fun g g' => ?_
   | refine z_mixedx ?_
   | refine z_quiet ?_)
   | (refine z_isop ?_; first
   | (refine z_isbin ?_; first
   | (refine z_isb .eql ?_; first
   | refine o_eq rfl rfl (by decide) ?_
   | refine o_beq tabOk rfl rfl rfl (by decide) ?_
   | refine o_peq tabOk rfl rfl (by decide) ?_))
   | (refine z_isload ?_; first
   | (refine z_ld1 tabOk rfl rfl ?_; first
   | refine o_loadm tabOk rfl rfl rfl (by repeat' (first | exact List.mem_cons_self | apply List.mem_cons_of_mem)) (by first | exact pipe_at _ _ _ _ _ | exact pipe_len _ _ _ _ _ | exact pipe_rd _ _ _ _ _ | exact pipe_wr _ _ _ _ _ | exact pipe_el _ _ _ _ _ (by omega) | exact u8s_at _ (by omega) | rfl) (by decide) ?_
   | refine o_loads tabOk (by first | assumption | exact Rds.cons _ (by assumption) | exact Rds.cons _ (Rds.cons _ (by assumption)) | exact own_rds 0 rfl | exact own_rds 1 rfl | exact own_rds 2 rfl) rfl rfl rfl (by first | exact pipe_at _ _ _ _ _ | exact pipe_len _ _ _ _ _ | exact pipe_rd _ _ _ _ _ | exact pipe_wr _ _ _ _ _ | exact pipe_el _ _ _ _ _ (by omega) | exact u8s_at _ (by omega) | rfl) (by decide) ?_)
   | (refine z_ldw tabOk rfl rfl ?_; first
   | refine o_loadwm tabOk rfl rfl rfl (by repeat' (first | exact List.mem_cons_self | apply List.mem_cons_of_mem)) (by first | rfl) (by decide) ?_))
   | refine o_move rfl (by decide) ?_
   | refine o_assign rfl (by decide) ?_
   | refine o_nil rfl (by decide) ?_
   | refine o_extract rfl rfl (by decide) ?_
   | refine o_not rfl (by decide) ?_
   | refine o_field0 tabOk rfl rfl rfl rfl rfl (by decide) ?_
   | refine o_field tabOk rfl rfl rfl rfl rfl (by decide) ?_
   | refine o_conv tabOk rfl rfl rfl (by decide) ?_))
theorem plen_nil : Does Try.prog 32 [.pointer none] [] (fun _ : Unit => True) (fun _ => .int .i64 0) (fun _ => []) := by
  intro w hw
  refine f_enter Try.func32 rfl Try.ntmps32 rfl hw ?_
  repeat' (first
   | (refine s_is ?_; first
   | (refine s_isret ?_; first
   | exact f_ret1 rfl rfl () trivial rfl (fun w h => h))
   | (refine s_isw ?_; first
   | refine c_seq ?_
   | refine c_block ?_
   | refine c_region ?_
   | refine c_mixed mixed (by kernel_rfl) ?_
   | refine c_skip ?_
   | refine c_ret ?_
   | refine c_exit ?_
   | (refine s_iscond ?_; first
   | (refine c_true rfl (by first | with_reducible rfl | with_reducible assumption | ((with_reducible refine decide_eq_true ?_); first | with_reducible rfl | with_reducible assumption | omega)) ?_)
   | (refine c_false rfl (by first | with_reducible rfl | with_reducible assumption | ((with_reducible refine decide_eq_false ?_); first | with_reducible assumption | omega)) ?_)
   | (refine c_true rfl (by first | (simp only [Bool.not_eq_true', decide_eq_false_iff_not]; omega) | (with_reducible assumption) | (rw [decide_eq_false] <;> (first | omega | with_reducible rfl)) | (rw [decide_eq_true] <;> (first | omega | with_reducible rfl)) | (simp; done) | (simp; omega)) ?_)
   | (refine c_false rfl (by first | (simp only [Bool.not_eq_false', decide_eq_true_eq]; omega) | (with_reducible assumption) | (rw [decide_eq_false] <;> (first | omega | with_reducible rfl)) | (rw [decide_eq_true] <;> (first | omega | with_reducible rfl)) | (simp; done) | (simp; omega)) ?_)
   | refine c_cond rfl (fun hc => ?_) (fun hc => ?_)
   | refine c_condb rfl (fun hc => ?_) (fun hc => ?_)))
   | refine x_then ?_
   | refine x_then_ret ?_
   | refine x_then_exit ?_
   | refine x_block _ ?_
   | refine x_block_ret _ ?_
   | refine x_block_exit _ ?_
   | refine x_block_past (by decide) ?_
   | refine z_tailm ?_)
   | (refine z_isnil ?_; first
   | refine z_list ?_
   | refine z_mixed ?_
   | refine z_mono0 ?_
   | refine z_mono1 (by decide) fun g => ?_
   | refine z_mono2 (by decide) (by decide) fun g g' => ?_
   | refine z_mixedx ?_
   | refine z_quiet ?_)
   | (refine z_isop ?_; first
   | (refine z_isbin ?_; first
   | (refine z_isb .eql ?_; first
   | refine o_eq rfl rfl (by decide) ?_
   | refine o_beq tabOk rfl rfl rfl (by decide) ?_
   | refine o_peq tabOk rfl rfl (by decide) ?_))
   | (refine z_isload ?_; first
   | (refine z_ld1 tabOk rfl rfl ?_; first
   | refine o_loadm tabOk rfl rfl rfl (by repeat' (first | exact List.mem_cons_self | apply List.mem_cons_of_mem)) (by first | exact pipe_at _ _ _ _ _ | exact pipe_len _ _ _ _ _ | exact pipe_rd _ _ _ _ _ | exact pipe_wr _ _ _ _ _ | exact pipe_el _ _ _ _ _ (by omega) | exact u8s_at _ (by omega) | rfl) (by decide) ?_
   | refine o_loads tabOk (by first | assumption | exact Rds.cons _ (by assumption) | exact Rds.cons _ (Rds.cons _ (by assumption)) | exact own_rds 0 rfl | exact own_rds 1 rfl | exact own_rds 2 rfl) rfl rfl rfl (by first | exact pipe_at _ _ _ _ _ | exact pipe_len _ _ _ _ _ | exact pipe_rd _ _ _ _ _ | exact pipe_wr _ _ _ _ _ | exact pipe_el _ _ _ _ _ (by omega) | exact u8s_at _ (by omega) | rfl) (by decide) ?_)
   | (refine z_ldw tabOk rfl rfl ?_; first
   | refine o_loadwm tabOk rfl rfl rfl (by repeat' (first | exact List.mem_cons_self | apply List.mem_cons_of_mem)) (by first | rfl) (by decide) ?_))
   | refine o_move rfl (by decide) ?_
   | refine o_assign rfl (by decide) ?_
   | refine o_nil rfl (by decide) ?_
   | refine o_extract rfl rfl (by decide) ?_
   | refine o_not rfl (by decide) ?_
   | refine o_field0 tabOk rfl rfl rfl rfl rfl (by decide) ?_
   | refine o_field tabOk rfl rfl rfl rfl rfl (by decide) ?_
   | refine o_conv tabOk rfl rfl rfl (by decide) ?_))
theorem popen_c (f g : Bool) : Does Try.prog 40 [pp b] [pipeC b r a n f g] (fun _ : Unit => True) (fun _ => .tuple #[.bool f, .bool g]) (fun _ => [pipeC b r a n f g]) := by
  intro w hw
  refine f_enter Try.func40 rfl Try.ntmps40 rfl hw ?_
  repeat' (first
   | (refine s_is ?_; first
   | (refine s_isret ?_; first
   | exact f_ret2 rfl rfl rfl () trivial rfl (fun w h => h))
   | (refine s_isw ?_; first
   | refine c_seq ?_
   | refine c_block ?_
   | refine c_region ?_
   | refine c_mixed mixed (by kernel_rfl) ?_
   | refine c_skip ?_
   | refine c_ret ?_
   | refine c_exit ?_
   | (refine s_iscond ?_; first
   | (refine c_true rfl (by first | with_reducible rfl | with_reducible assumption | ((with_reducible refine decide_eq_true ?_); first | with_reducible rfl | with_reducible assumption | omega)) ?_)
   | (refine c_false rfl (by first | with_reducible rfl | with_reducible assumption | ((with_reducible refine decide_eq_false ?_); first | with_reducible assumption | omega)) ?_)
   | (refine c_true rfl (by first | (simp only [Bool.not_eq_true', decide_eq_false_iff_not]; omega) | (with_reducible assumption) | (rw [decide_eq_false] <;> (first | omega | with_reducible rfl)) | (rw [decide_eq_true] <;> (first | omega | with_reducible rfl)) | (simp; done) | (simp; omega)) ?_)
   | (refine c_false rfl (by first | (simp only [Bool.not_eq_false', decide_eq_true_eq]; omega) | (with_reducible assumption) | (rw [decide_eq_false] <;> (first | omega | with_reducible rfl)) | (rw [decide_eq_true] <;> (first | omega | with_reducible rfl)) | (simp; done) | (simp; omega)) ?_)
   | refine c_cond rfl (fun hc => ?_) (fun hc => ?_)
   | refine c_condb rfl (fun hc => ?_) (fun hc => ?_)))
   | refine x_then ?_
   | refine x_then_ret ?_
   | refine x_then_exit ?_
   | refine x_block _ ?_
   | refine x_block_ret _ ?_
   | refine x_block_exit _ ?_
   | refine x_block_past (by decide) ?_
   | refine z_tailm ?_)
   | (refine z_isnil ?_; first
   | refine z_list ?_
   | refine z_mixed ?_
   | refine z_mono0 ?_
   | refine z_mono1 (by decide) fun g => ?_
   | refine z_mono2 (by decide) (by decide) fun g g' => ?_
   | refine z_mixedx ?_
   | refine z_quiet ?_)
   | (refine z_isop ?_; first
   | (refine z_isbin ?_; first
   | (refine z_isb .eql ?_; first
   | refine o_eq rfl rfl (by decide) ?_
   | refine o_beq tabOk rfl rfl rfl (by decide) ?_
   | refine o_peq tabOk rfl rfl (by decide) ?_))
   | (refine z_isload ?_; first
   | (refine z_ld1 tabOk rfl rfl ?_; first
   | refine o_loadm tabOk rfl rfl rfl (by repeat' (first | exact List.mem_cons_self | apply List.mem_cons_of_mem)) (by first | exact pipe_at _ _ _ _ _ | exact pipe_len _ _ _ _ _ | exact pipe_rd _ _ _ _ _ | exact pipe_wr _ _ _ _ _ | exact pipe_el _ _ _ _ _ (by omega) | exact u8s_at _ (by omega) | rfl) (by decide) ?_
   | refine o_loads tabOk (by first | assumption | exact Rds.cons _ (by assumption) | exact Rds.cons _ (Rds.cons _ (by assumption)) | exact own_rds 0 rfl | exact own_rds 1 rfl | exact own_rds 2 rfl) rfl rfl rfl (by first | exact pipe_at _ _ _ _ _ | exact pipe_len _ _ _ _ _ | exact pipe_rd _ _ _ _ _ | exact pipe_wr _ _ _ _ _ | exact pipe_el _ _ _ _ _ (by omega) | exact u8s_at _ (by omega) | rfl) (by decide) ?_)
   | (refine z_ldw tabOk rfl rfl ?_; first
   | refine o_loadwm tabOk rfl rfl rfl (by repeat' (first | exact List.mem_cons_self | apply List.mem_cons_of_mem)) (by first | rfl) (by decide) ?_))
   | refine o_move rfl (by decide) ?_
   | refine o_assign rfl (by decide) ?_
   | refine o_nil rfl (by decide) ?_
   | refine o_extract rfl rfl (by decide) ?_
   | refine o_not rfl (by decide) ?_
   | refine o_field0 tabOk rfl rfl rfl rfl rfl (by decide) ?_
   | refine o_field tabOk rfl rfl rfl rfl rfl (by decide) ?_
   | refine o_conv tabOk rfl rfl rfl (by decide) ?_))
theorem popen_nil : Does Try.prog 40 [.pointer none] [] (fun _ : Unit => True) (fun _ => .tuple #[.bool false, .bool false]) (fun _ => []) := by
  intro w hw
  refine f_enter Try.func40 rfl Try.ntmps40 rfl hw ?_
  repeat' (first
   | (refine s_is ?_; first
   | (refine s_isret ?_; first
   | exact f_ret2 rfl rfl rfl () trivial rfl (fun w h => h))
   | (refine s_isw ?_; first
   | refine c_seq ?_
   | refine c_block ?_
   | refine c_region ?_
   | refine c_mixed mixed (by kernel_rfl) ?_
   | refine c_skip ?_
   | refine c_ret ?_
   | refine c_exit ?_
   | (refine s_iscond ?_; first
   | (refine c_true rfl (by first | with_reducible rfl | with_reducible assumption | ((with_reducible refine decide_eq_true ?_); first | with_reducible rfl | with_reducible assumption | omega)) ?_)
   | (refine c_false rfl (by first | with_reducible rfl | with_reducible assumption | ((with_reducible refine decide_eq_false ?_); first | with_reducible assumption | omega)) ?_)
   | (refine c_true rfl (by first | (simp only [Bool.not_eq_true', decide_eq_false_iff_not]; omega) | (with_reducible assumption) | (rw [decide_eq_false] <;> (first | omega | with_reducible rfl)) | (rw [decide_eq_true] <;> (first | omega | with_reducible rfl)) | (simp; done) | (simp; omega)) ?_)
   | (refine c_false rfl (by first | (simp only [Bool.not_eq_false', decide_eq_true_eq]; omega) | (with_reducible assumption) | (rw [decide_eq_false] <;> (first | omega | with_reducible rfl)) | (rw [decide_eq_true] <;> (first | omega | with_reducible rfl)) | (simp; done) | (simp; omega)) ?_)
   | refine c_cond rfl (fun hc => ?_) (fun hc => ?_)
   | refine c_condb rfl (fun hc => ?_) (fun hc => ?_)))
   | refine x_then ?_
   | refine x_then_ret ?_
   | refine x_then_exit ?_
   | refine x_block _ ?_
   | refine x_block_ret _ ?_
   | refine x_block_exit _ ?_
   | refine x_block_past (by decide) ?_
   | refine z_tailm ?_)
   | (refine z_isnil ?_; first
   | refine z_list ?_
   | refine z_mixed ?_
   | refine z_mono0 ?_
   | refine z_mono1 (by decide) fun g => ?_
   | refine z_mono2 (by decide) (by decide) fun g g' => ?_
   | refine z_mixedx ?_
   | refine z_quiet ?_)
   | (refine z_isop ?_; first
   | (refine z_isbin ?_; first
   | (refine z_isb .eql ?_; first
   | refine o_eq rfl rfl (by decide) ?_
   | refine o_beq tabOk rfl rfl rfl (by decide) ?_
   | refine o_peq tabOk rfl rfl (by decide) ?_))
   | (refine z_isload ?_; first
   | (refine z_ld1 tabOk rfl rfl ?_; first
   | refine o_loadm tabOk rfl rfl rfl (by repeat' (first | exact List.mem_cons_self | apply List.mem_cons_of_mem)) (by first | exact pipe_at _ _ _ _ _ | exact pipe_len _ _ _ _ _ | exact pipe_rd _ _ _ _ _ | exact pipe_wr _ _ _ _ _ | exact pipe_el _ _ _ _ _ (by omega) | exact u8s_at _ (by omega) | rfl) (by decide) ?_
   | refine o_loads tabOk (by first | assumption | exact Rds.cons _ (by assumption) | exact Rds.cons _ (Rds.cons _ (by assumption)) | exact own_rds 0 rfl | exact own_rds 1 rfl | exact own_rds 2 rfl) rfl rfl rfl (by first | exact pipe_at _ _ _ _ _ | exact pipe_len _ _ _ _ _ | exact pipe_rd _ _ _ _ _ | exact pipe_wr _ _ _ _ _ | exact pipe_el _ _ _ _ _ (by omega) | exact u8s_at _ (by omega) | rfl) (by decide) ?_)
   | (refine z_ldw tabOk rfl rfl ?_; first
   | refine o_loadwm tabOk rfl rfl rfl (by repeat' (first | exact List.mem_cons_self | apply List.mem_cons_of_mem)) (by first | rfl) (by decide) ?_))
   | refine o_move rfl (by decide) ?_
   | refine o_assign rfl (by decide) ?_
   | refine o_nil rfl (by decide) ?_
   | refine o_extract rfl rfl (by decide) ?_
   | refine o_not rfl (by decide) ?_
   | refine o_field0 tabOk rfl rfl rfl rfl rfl (by decide) ?_
   | refine o_field tabOk rfl rfl rfl rfl rfl (by decide) ?_
   | refine o_conv tabOk rfl rfl rfl (by decide) ?_))
theorem pcr_c (f g : Bool) : Does Try.prog 41 [pp b] [pipeC b r a n f g] (fun _ : Unit => True) (fun _ => .tuple #[]) (fun _ => [pipeC b r a 0 false g]) := by
  intro w hw
  refine f_enter Try.func41 rfl Try.ntmps41 rfl hw ?_
  repeat' (first
   | (refine s_is ?_; first
   | (refine s_isret ?_; first
   | exact f_end0 rfl () trivial rfl (fun w h => h))
   | (refine s_isw ?_; first
   | refine c_seq ?_
   | refine c_block ?_
   | refine c_region ?_
   | refine c_mixed mixed (by kernel_rfl) ?_
   | refine c_skip ?_
   | refine c_ret ?_
   | refine c_exit ?_
   | (refine s_iscond ?_; first
   | (refine c_true rfl (by first | with_reducible rfl | with_reducible assumption | ((with_reducible refine decide_eq_true ?_); first | with_reducible rfl | with_reducible assumption | omega)) ?_)
   | (refine c_false rfl (by first | with_reducible rfl | with_reducible assumption | ((with_reducible refine decide_eq_false ?_); first | with_reducible assumption | omega)) ?_)
   | (refine c_true rfl (by first | (simp only [Bool.not_eq_true', decide_eq_false_iff_not]; omega) | (with_reducible assumption) | (rw [decide_eq_false] <;> (first | omega | with_reducible rfl)) | (rw [decide_eq_true] <;> (first | omega | with_reducible rfl)) | (simp; done) | (simp; omega)) ?_)
   | (refine c_false rfl (by first | (simp only [Bool.not_eq_false', decide_eq_true_eq]; omega) | (with_reducible assumption) | (rw [decide_eq_false] <;> (first | omega | with_reducible rfl)) | (rw [decide_eq_true] <;> (first | omega | with_reducible rfl)) | (simp; done) | (simp; omega)) ?_)
   | refine c_cond rfl (fun hc => ?_) (fun hc => ?_)
   | refine c_condb rfl (fun hc => ?_) (fun hc => ?_)))
   | refine x_then ?_
   | refine x_then_ret ?_
   | refine x_then_exit ?_
   | refine x_block _ ?_
   | refine x_block_ret _ ?_
   | refine x_block_exit _ ?_
   | refine x_block_past (by decide) ?_
   | refine z_tailm ?_)
   | (refine z_isnil ?_; first
   | refine z_list ?_
   | refine z_mixed ?_
   | refine z_mono0 ?_
   | refine z_mono1 (by decide) fun g => ?_
   | refine z_mono2 (by decide) (by decide) fun g g' => ?_
   | refine z_mixedx ?_
   | refine z_quiet ?_)
   | (refine z_isop ?_; first
   | (refine z_isbin ?_; first
   | (refine z_isb .neq ?_; first
   | refine o_ne rfl rfl (by decide) ?_
   | refine o_bne tabOk rfl rfl rfl (by decide) ?_
   | refine o_pne tabOk rfl rfl (by decide) ?_))
   | (refine z_isstore ?_; first
   | (refine z_stw rfl ?_; first
   | ((refine z_sti 0 rfl rfl ?_; refine o_storeb0 rfl tabOk rfl rfl rfl (by first | rfl) (by first | rfl) (by first | rfl) ?_))
   | ((refine z_sti 1 rfl rfl ?_; refine o_storeb1 rfl tabOk rfl rfl rfl (by first | rfl) (by first | rfl) (by first | rfl) ?_))
   | ((refine z_sti 2 rfl rfl ?_; refine o_storeb2 rfl tabOk rfl rfl rfl (by first | rfl) (by first | rfl) (by first | rfl) ?_))
   | ((refine z_sti 3 rfl rfl ?_; refine o_storeb3 rfl tabOk rfl rfl rfl (by first | rfl) (by first | rfl) (by first | rfl) ?_))
   | ((refine z_sti 4 rfl rfl ?_; refine o_storeb4 rfl tabOk rfl rfl rfl (by first | rfl) (by first | rfl) (by first | rfl) ?_))
   | ((refine z_sti 5 rfl rfl ?_; refine o_storeb5 rfl tabOk rfl rfl rfl (by first | rfl) (by first | rfl) (by first | rfl) ?_))
   | ((refine z_sti 6 rfl rfl ?_; refine o_storeb6 rfl tabOk rfl rfl rfl (by first | rfl) (by first | rfl) (by first | rfl) ?_)))
   | (refine z_st1 rfl rfl ?_; first
   | refine o_store rfl tabOk rfl rfl rfl rfl rfl (by first | exact pipe_at _ _ _ _ _ | exact pipe_len _ _ _ _ _ | exact pipe_rd _ _ _ _ _ | exact pipe_wr _ _ _ _ _ | exact pipe_el _ _ _ _ _ (by omega) | exact u8s_at _ (by omega) | rfl) (by first | exact pipe_set_at _ _ _ _ _ _ | exact pipe_set_len _ _ _ _ _ _ | exact pipe_set_rd _ _ _ _ _ _ | exact pipe_set_wr _ _ _ _ _ _ | exact pipe_set _ _ _ _ _ (by omega) _ | rfl) ?_
   | ((refine z_sti 1 rfl rfl ?_; refine o_store1 rfl tabOk rfl rfl rfl rfl rfl (by first | exact pipe_at _ _ _ _ _ | exact pipe_len _ _ _ _ _ | exact pipe_rd _ _ _ _ _ | exact pipe_wr _ _ _ _ _ | exact pipe_el _ _ _ _ _ (by omega) | exact u8s_at _ (by omega) | rfl) (by first | exact pipe_set_at _ _ _ _ _ _ | exact pipe_set_len _ _ _ _ _ _ | exact pipe_set_rd _ _ _ _ _ _ | exact pipe_set_wr _ _ _ _ _ _ | exact pipe_set _ _ _ _ _ (by omega) _ | rfl) ?_))
   | ((refine z_sti 2 rfl rfl ?_; refine o_store2 rfl tabOk rfl rfl rfl rfl rfl (by first | exact pipe_at _ _ _ _ _ | exact pipe_len _ _ _ _ _ | exact pipe_rd _ _ _ _ _ | exact pipe_wr _ _ _ _ _ | exact pipe_el _ _ _ _ _ (by omega) | exact u8s_at _ (by omega) | rfl) (by first | exact pipe_set_at _ _ _ _ _ _ | exact pipe_set_len _ _ _ _ _ _ | exact pipe_set_rd _ _ _ _ _ _ | exact pipe_set_wr _ _ _ _ _ _ | exact pipe_set _ _ _ _ _ (by omega) _ | rfl) ?_))
   | ((refine z_sti 3 rfl rfl ?_; refine o_store3 rfl tabOk rfl rfl rfl rfl rfl (by first | exact pipe_at _ _ _ _ _ | exact pipe_len _ _ _ _ _ | exact pipe_rd _ _ _ _ _ | exact pipe_wr _ _ _ _ _ | exact pipe_el _ _ _ _ _ (by omega) | exact u8s_at _ (by omega) | rfl) (by first | exact pipe_set_at _ _ _ _ _ _ | exact pipe_set_len _ _ _ _ _ _ | exact pipe_set_rd _ _ _ _ _ _ | exact pipe_set_wr _ _ _ _ _ _ | exact pipe_set _ _ _ _ _ (by omega) _ | rfl) ?_))
   | ((refine z_sti 4 rfl rfl ?_; refine o_store4 rfl tabOk rfl rfl rfl rfl rfl (by first | exact pipe_at _ _ _ _ _ | exact pipe_len _ _ _ _ _ | exact pipe_rd _ _ _ _ _ | exact pipe_wr _ _ _ _ _ | exact pipe_el _ _ _ _ _ (by omega) | exact u8s_at _ (by omega) | rfl) (by first | exact pipe_set_at _ _ _ _ _ _ | exact pipe_set_len _ _ _ _ _ _ | exact pipe_set_rd _ _ _ _ _ _ | exact pipe_set_wr _ _ _ _ _ _ | exact pipe_set _ _ _ _ _ (by omega) _ | rfl) ?_))
   | ((refine z_sti 5 rfl rfl ?_; refine o_store5 rfl tabOk rfl rfl rfl rfl rfl (by first | exact pipe_at _ _ _ _ _ | exact pipe_len _ _ _ _ _ | exact pipe_rd _ _ _ _ _ | exact pipe_wr _ _ _ _ _ | exact pipe_el _ _ _ _ _ (by omega) | exact u8s_at _ (by omega) | rfl) (by first | exact pipe_set_at _ _ _ _ _ _ | exact pipe_set_len _ _ _ _ _ _ | exact pipe_set_rd _ _ _ _ _ _ | exact pipe_set_wr _ _ _ _ _ _ | exact pipe_set _ _ _ _ _ (by omega) _ | rfl) ?_))
   | ((refine z_sti 6 rfl rfl ?_; refine o_store6 rfl tabOk rfl rfl rfl rfl rfl (by first | exact pipe_at _ _ _ _ _ | exact pipe_len _ _ _ _ _ | exact pipe_rd _ _ _ _ _ | exact pipe_wr _ _ _ _ _ | exact pipe_el _ _ _ _ _ (by omega) | exact u8s_at _ (by omega) | rfl) (by first | exact pipe_set_at _ _ _ _ _ _ | exact pipe_set_len _ _ _ _ _ _ | exact pipe_set_rd _ _ _ _ _ _ | exact pipe_set_wr _ _ _ _ _ _ | exact pipe_set _ _ _ _ _ (by omega) _ | rfl) ?_))))
   | refine o_move rfl (by decide) ?_
   | refine o_assign rfl (by decide) ?_
   | refine o_nil rfl (by decide) ?_
   | refine o_extract rfl rfl (by decide) ?_
   | refine o_not rfl (by decide) ?_
   | refine o_field0 tabOk rfl rfl rfl rfl rfl (by decide) ?_
   | refine o_field tabOk rfl rfl rfl rfl rfl (by decide) ?_
   | refine o_conv tabOk rfl rfl rfl (by decide) ?_))
theorem pcr_nil : Does Try.prog 41 [.pointer none] [] (fun _ : Unit => True) (fun _ => .tuple #[]) (fun _ => []) := by
  intro w hw
  refine f_enter Try.func41 rfl Try.ntmps41 rfl hw ?_
  repeat' (first
   | (refine s_is ?_; first
   | (refine s_isret ?_; first
   | exact f_end0 rfl () trivial rfl (fun w h => h))
   | (refine s_isw ?_; first
   | refine c_seq ?_
   | refine c_block ?_
   | refine c_region ?_
   | refine c_mixed mixed (by kernel_rfl) ?_
   | refine c_skip ?_
   | refine c_ret ?_
   | refine c_exit ?_
   | (refine s_iscond ?_; first
   | (refine c_true rfl (by first | with_reducible rfl | with_reducible assumption | ((with_reducible refine decide_eq_true ?_); first | with_reducible rfl | with_reducible assumption | omega)) ?_)
   | (refine c_false rfl (by first | with_reducible rfl | with_reducible assumption | ((with_reducible refine decide_eq_false ?_); first | with_reducible assumption | omega)) ?_)
   | (refine c_true rfl (by first | (simp only [Bool.not_eq_true', decide_eq_false_iff_not]; omega) | (with_reducible assumption) | (rw [decide_eq_false] <;> (first | omega | with_reducible rfl)) | (rw [decide_eq_true] <;> (first | omega | with_reducible rfl)) | (simp; done) | (simp; omega)) ?_)
   | (refine c_false rfl (by first | (simp only [Bool.not_eq_false', decide_eq_true_eq]; omega) | (with_reducible assumption) | (rw [decide_eq_false] <;> (first | omega | with_reducible rfl)) | (rw [decide_eq_true] <;> (first | omega | with_reducible rfl)) | (simp; done) | (simp; omega)) ?_)
   | refine c_cond rfl (fun hc => ?_) (fun hc => ?_)
   | refine c_condb rfl (fun hc => ?_) (fun hc => ?_)))
   | refine x_then ?_
   | refine x_then_ret ?_
   | refine x_then_exit ?_
   | refine x_block _ ?_
   | refine x_block_ret _ ?_
   | refine x_block_exit _ ?_
   | refine x_block_past (by decide) ?_
   | refine z_tailm ?_)
   | (refine z_isnil ?_; first
   | refine z_list ?_
   | refine z_mixed ?_
   | refine z_mono0 ?_
   | refine z_mono1 (by decide) fun g => ?_
   | refine z_mono2 (by decide) (by decide) fun g g' => ?_
   | refine z_mixedx ?_
   | refine z_quiet ?_)
   | (refine z_isop ?_; first
   | (refine z_isbin ?_; first
   | (refine z_isb .neq ?_; first
   | refine o_ne rfl rfl (by decide) ?_
   | refine o_bne tabOk rfl rfl rfl (by decide) ?_
   | refine o_pne tabOk rfl rfl (by decide) ?_))
   | (refine z_isstore ?_; first
   | (refine z_stw rfl ?_; first
   | ((refine z_sti 0 rfl rfl ?_; refine o_storeb0 rfl tabOk rfl rfl rfl (by first | rfl) (by first | rfl) (by first | rfl) ?_))
   | ((refine z_sti 1 rfl rfl ?_; refine o_storeb1 rfl tabOk rfl rfl rfl (by first | rfl) (by first | rfl) (by first | rfl) ?_))
   | ((refine z_sti 2 rfl rfl ?_; refine o_storeb2 rfl tabOk rfl rfl rfl (by first | rfl) (by first | rfl) (by first | rfl) ?_))
   | ((refine z_sti 3 rfl rfl ?_; refine o_storeb3 rfl tabOk rfl rfl rfl (by first | rfl) (by first | rfl) (by first | rfl) ?_))
   | ((refine z_sti 4 rfl rfl ?_; refine o_storeb4 rfl tabOk rfl rfl rfl (by first | rfl) (by first | rfl) (by first | rfl) ?_))
   | ((refine z_sti 5 rfl rfl ?_; refine o_storeb5 rfl tabOk rfl rfl rfl (by first | rfl) (by first | rfl) (by first | rfl) ?_))
   | ((refine z_sti 6 rfl rfl ?_; refine o_storeb6 rfl tabOk rfl rfl rfl (by first | rfl) (by first | rfl) (by first | rfl) ?_)))
   | (refine z_st1 rfl rfl ?_; first
   | refine o_store rfl tabOk rfl rfl rfl rfl rfl (by first | exact pipe_at _ _ _ _ _ | exact pipe_len _ _ _ _ _ | exact pipe_rd _ _ _ _ _ | exact pipe_wr _ _ _ _ _ | exact pipe_el _ _ _ _ _ (by omega) | exact u8s_at _ (by omega) | rfl) (by first | exact pipe_set_at _ _ _ _ _ _ | exact pipe_set_len _ _ _ _ _ _ | exact pipe_set_rd _ _ _ _ _ _ | exact pipe_set_wr _ _ _ _ _ _ | exact pipe_set _ _ _ _ _ (by omega) _ | rfl) ?_
   | ((refine z_sti 1 rfl rfl ?_; refine o_store1 rfl tabOk rfl rfl rfl rfl rfl (by first | exact pipe_at _ _ _ _ _ | exact pipe_len _ _ _ _ _ | exact pipe_rd _ _ _ _ _ | exact pipe_wr _ _ _ _ _ | exact pipe_el _ _ _ _ _ (by omega) | exact u8s_at _ (by omega) | rfl) (by first | exact pipe_set_at _ _ _ _ _ _ | exact pipe_set_len _ _ _ _ _ _ | exact pipe_set_rd _ _ _ _ _ _ | exact pipe_set_wr _ _ _ _ _ _ | exact pipe_set _ _ _ _ _ (by omega) _ | rfl) ?_))
   | ((refine z_sti 2 rfl rfl ?_; refine o_store2 rfl tabOk rfl rfl rfl rfl rfl (by first | exact pipe_at _ _ _ _ _ | exact pipe_len _ _ _ _ _ | exact pipe_rd _ _ _ _ _ | exact pipe_wr _ _ _ _ _ | exact pipe_el _ _ _ _ _ (by omega) | exact u8s_at _ (by omega) | rfl) (by first | exact pipe_set_at _ _ _ _ _ _ | exact pipe_set_len _ _ _ _ _ _ | exact pipe_set_rd _ _ _ _ _ _ | exact pipe_set_wr _ _ _ _ _ _ | exact pipe_set _ _ _ _ _ (by omega) _ | rfl) ?_))
   | ((refine z_sti 3 rfl rfl ?_; refine o_store3 rfl tabOk rfl rfl rfl rfl rfl (by first | exact pipe_at _ _ _ _ _ | exact pipe_len _ _ _ _ _ | exact pipe_rd _ _ _ _ _ | exact pipe_wr _ _ _ _ _ | exact pipe_el _ _ _ _ _ (by omega) | exact u8s_at _ (by omega) | rfl) (by first | exact pipe_set_at _ _ _ _ _ _ | exact pipe_set_len _ _ _ _ _ _ | exact pipe_set_rd _ _ _ _ _ _ | exact pipe_set_wr _ _ _ _ _ _ | exact pipe_set _ _ _ _ _ (by omega) _ | rfl) ?_))
   | ((refine z_sti 4 rfl rfl ?_; refine o_store4 rfl tabOk rfl rfl rfl rfl rfl (by first | exact pipe_at _ _ _ _ _ | exact pipe_len _ _ _ _ _ | exact pipe_rd _ _ _ _ _ | exact pipe_wr _ _ _ _ _ | exact pipe_el _ _ _ _ _ (by omega) | exact u8s_at _ (by omega) | rfl) (by first | exact pipe_set_at _ _ _ _ _ _ | exact pipe_set_len _ _ _ _ _ _ | exact pipe_set_rd _ _ _ _ _ _ | exact pipe_set_wr _ _ _ _ _ _ | exact pipe_set _ _ _ _ _ (by omega) _ | rfl) ?_))
   | ((refine z_sti 5 rfl rfl ?_; refine o_store5 rfl tabOk rfl rfl rfl rfl rfl (by first | exact pipe_at _ _ _ _ _ | exact pipe_len _ _ _ _ _ | exact pipe_rd _ _ _ _ _ | exact pipe_wr _ _ _ _ _ | exact pipe_el _ _ _ _ _ (by omega) | exact u8s_at _ (by omega) | rfl) (by first | exact pipe_set_at _ _ _ _ _ _ | exact pipe_set_len _ _ _ _ _ _ | exact pipe_set_rd _ _ _ _ _ _ | exact pipe_set_wr _ _ _ _ _ _ | exact pipe_set _ _ _ _ _ (by omega) _ | rfl) ?_))
   | ((refine z_sti 6 rfl rfl ?_; refine o_store6 rfl tabOk rfl rfl rfl rfl rfl (by first | exact pipe_at _ _ _ _ _ | exact pipe_len _ _ _ _ _ | exact pipe_rd _ _ _ _ _ | exact pipe_wr _ _ _ _ _ | exact pipe_el _ _ _ _ _ (by omega) | exact u8s_at _ (by omega) | rfl) (by first | exact pipe_set_at _ _ _ _ _ _ | exact pipe_set_len _ _ _ _ _ _ | exact pipe_set_rd _ _ _ _ _ _ | exact pipe_set_wr _ _ _ _ _ _ | exact pipe_set _ _ _ _ _ (by omega) _ | rfl) ?_))))
   | refine o_move rfl (by decide) ?_
   | refine o_assign rfl (by decide) ?_
   | refine o_nil rfl (by decide) ?_
   | refine o_extract rfl rfl (by decide) ?_
   | refine o_not rfl (by decide) ?_
   | refine o_field0 tabOk rfl rfl rfl rfl rfl (by decide) ?_
   | refine o_field tabOk rfl rfl rfl rfl rfl (by decide) ?_
   | refine o_conv tabOk rfl rfl rfl (by decide) ?_))
theorem pcw_c (f g : Bool) : Does Try.prog 42 [pp b] [pipeC b r a n f g] (fun _ : Unit => True) (fun _ => .tuple #[]) (fun _ => [pipeC b r a n f false]) := by
  intro w hw
  refine f_enter Try.func42 rfl Try.ntmps42 rfl hw ?_
  repeat' (first
   | (refine s_is ?_; first
   | (refine s_isret ?_; first
   | exact f_end0 rfl () trivial rfl (fun w h => h))
   | (refine s_isw ?_; first
   | refine c_seq ?_
   | refine c_block ?_
   | refine c_region ?_
   | refine c_mixed mixed (by kernel_rfl) ?_
   | refine c_skip ?_
   | refine c_ret ?_
   | refine c_exit ?_
   | (refine s_iscond ?_; first
   | (refine c_true rfl (by first | with_reducible rfl | with_reducible assumption | ((with_reducible refine decide_eq_true ?_); first | with_reducible rfl | with_reducible assumption | omega)) ?_)
   | (refine c_false rfl (by first | with_reducible rfl | with_reducible assumption | ((with_reducible refine decide_eq_false ?_); first | with_reducible assumption | omega)) ?_)
   | (refine c_true rfl (by first | (simp only [Bool.not_eq_true', decide_eq_false_iff_not]; omega) | (with_reducible assumption) | (rw [decide_eq_false] <;> (first | omega | with_reducible rfl)) | (rw [decide_eq_true] <;> (first | omega | with_reducible rfl)) | (simp; done) | (simp; omega)) ?_)
   | (refine c_false rfl (by first | (simp only [Bool.not_eq_false', decide_eq_true_eq]; omega) | (with_reducible assumption) | (rw [decide_eq_false] <;> (first | omega | with_reducible rfl)) | (rw [decide_eq_true] <;> (first | omega | with_reducible rfl)) | (simp; done) | (simp; omega)) ?_)
   | refine c_cond rfl (fun hc => ?_) (fun hc => ?_)
   | refine c_condb rfl (fun hc => ?_) (fun hc => ?_)))
   | refine x_then ?_
   | refine x_then_ret ?_
   | refine x_then_exit ?_
   | refine x_block _ ?_
   | refine x_block_ret _ ?_
   | refine x_block_exit _ ?_
   | refine x_block_past (by decide) ?_
   | refine z_tailm ?_)
   | (refine z_isnil ?_; first
   | refine z_list ?_
   | refine z_mixed ?_
   | refine z_mono0 ?_
   | refine z_mono1 (by decide) fun g => ?_
   | refine z_mono2 (by decide) (by decide) fun g g' => ?_
   | refine z_mixedx ?_
   | refine z_quiet ?_)
   | (refine z_isop ?_; first
   | (refine z_isbin ?_; first
   | (refine z_isb .neq ?_; first
   | refine o_ne rfl rfl (by decide) ?_
   | refine o_bne tabOk rfl rfl rfl (by decide) ?_
   | refine o_pne tabOk rfl rfl (by decide) ?_))
   | (refine z_isstore ?_; first
   | (refine z_stw rfl ?_; first
   | ((refine z_sti 0 rfl rfl ?_; refine o_storeb0 rfl tabOk rfl rfl rfl (by first | rfl) (by first | rfl) (by first | rfl) ?_))
   | ((refine z_sti 1 rfl rfl ?_; refine o_storeb1 rfl tabOk rfl rfl rfl (by first | rfl) (by first | rfl) (by first | rfl) ?_))
   | ((refine z_sti 2 rfl rfl ?_; refine o_storeb2 rfl tabOk rfl rfl rfl (by first | rfl) (by first | rfl) (by first | rfl) ?_))
   | ((refine z_sti 3 rfl rfl ?_; refine o_storeb3 rfl tabOk rfl rfl rfl (by first | rfl) (by first | rfl) (by first | rfl) ?_))
   | ((refine z_sti 4 rfl rfl ?_; refine o_storeb4 rfl tabOk rfl rfl rfl (by first | rfl) (by first | rfl) (by first | rfl) ?_))
   | ((refine z_sti 5 rfl rfl ?_; refine o_storeb5 rfl tabOk rfl rfl rfl (by first | rfl) (by first | rfl) (by first | rfl) ?_))
   | ((refine z_sti 6 rfl rfl ?_; refine o_storeb6 rfl tabOk rfl rfl rfl (by first | rfl) (by first | rfl) (by first | rfl) ?_)))
   | (refine z_st1 rfl rfl ?_; first
   | refine o_store rfl tabOk rfl rfl rfl rfl rfl (by first | exact pipe_at _ _ _ _ _ | exact pipe_len _ _ _ _ _ | exact pipe_rd _ _ _ _ _ | exact pipe_wr _ _ _ _ _ | exact pipe_el _ _ _ _ _ (by omega) | exact u8s_at _ (by omega) | rfl) (by first | exact pipe_set_at _ _ _ _ _ _ | exact pipe_set_len _ _ _ _ _ _ | exact pipe_set_rd _ _ _ _ _ _ | exact pipe_set_wr _ _ _ _ _ _ | exact pipe_set _ _ _ _ _ (by omega) _ | rfl) ?_
   | ((refine z_sti 1 rfl rfl ?_; refine o_store1 rfl tabOk rfl rfl rfl rfl rfl (by first | exact pipe_at _ _ _ _ _ | exact pipe_len _ _ _ _ _ | exact pipe_rd _ _ _ _ _ | exact pipe_wr _ _ _ _ _ | exact pipe_el _ _ _ _ _ (by omega) | exact u8s_at _ (by omega) | rfl) (by first | exact pipe_set_at _ _ _ _ _ _ | exact pipe_set_len _ _ _ _ _ _ | exact pipe_set_rd _ _ _ _ _ _ | exact pipe_set_wr _ _ _ _ _ _ | exact pipe_set _ _ _ _ _ (by omega) _ | rfl) ?_))
   | ((refine z_sti 2 rfl rfl ?_; refine o_store2 rfl tabOk rfl rfl rfl rfl rfl (by first | exact pipe_at _ _ _ _ _ | exact pipe_len _ _ _ _ _ | exact pipe_rd _ _ _ _ _ | exact pipe_wr _ _ _ _ _ | exact pipe_el _ _ _ _ _ (by omega) | exact u8s_at _ (by omega) | rfl) (by first | exact pipe_set_at _ _ _ _ _ _ | exact pipe_set_len _ _ _ _ _ _ | exact pipe_set_rd _ _ _ _ _ _ | exact pipe_set_wr _ _ _ _ _ _ | exact pipe_set _ _ _ _ _ (by omega) _ | rfl) ?_))
   | ((refine z_sti 3 rfl rfl ?_; refine o_store3 rfl tabOk rfl rfl rfl rfl rfl (by first | exact pipe_at _ _ _ _ _ | exact pipe_len _ _ _ _ _ | exact pipe_rd _ _ _ _ _ | exact pipe_wr _ _ _ _ _ | exact pipe_el _ _ _ _ _ (by omega) | exact u8s_at _ (by omega) | rfl) (by first | exact pipe_set_at _ _ _ _ _ _ | exact pipe_set_len _ _ _ _ _ _ | exact pipe_set_rd _ _ _ _ _ _ | exact pipe_set_wr _ _ _ _ _ _ | exact pipe_set _ _ _ _ _ (by omega) _ | rfl) ?_))
   | ((refine z_sti 4 rfl rfl ?_; refine o_store4 rfl tabOk rfl rfl rfl rfl rfl (by first | exact pipe_at _ _ _ _ _ | exact pipe_len _ _ _ _ _ | exact pipe_rd _ _ _ _ _ | exact pipe_wr _ _ _ _ _ | exact pipe_el _ _ _ _ _ (by omega) | exact u8s_at _ (by omega) | rfl) (by first | exact pipe_set_at _ _ _ _ _ _ | exact pipe_set_len _ _ _ _ _ _ | exact pipe_set_rd _ _ _ _ _ _ | exact pipe_set_wr _ _ _ _ _ _ | exact pipe_set _ _ _ _ _ (by omega) _ | rfl) ?_))
   | ((refine z_sti 5 rfl rfl ?_; refine o_store5 rfl tabOk rfl rfl rfl rfl rfl (by first | exact pipe_at _ _ _ _ _ | exact pipe_len _ _ _ _ _ | exact pipe_rd _ _ _ _ _ | exact pipe_wr _ _ _ _ _ | exact pipe_el _ _ _ _ _ (by omega) | exact u8s_at _ (by omega) | rfl) (by first | exact pipe_set_at _ _ _ _ _ _ | exact pipe_set_len _ _ _ _ _ _ | exact pipe_set_rd _ _ _ _ _ _ | exact pipe_set_wr _ _ _ _ _ _ | exact pipe_set _ _ _ _ _ (by omega) _ | rfl) ?_))
   | ((refine z_sti 6 rfl rfl ?_; refine o_store6 rfl tabOk rfl rfl rfl rfl rfl (by first | exact pipe_at _ _ _ _ _ | exact pipe_len _ _ _ _ _ | exact pipe_rd _ _ _ _ _ | exact pipe_wr _ _ _ _ _ | exact pipe_el _ _ _ _ _ (by omega) | exact u8s_at _ (by omega) | rfl) (by first | exact pipe_set_at _ _ _ _ _ _ | exact pipe_set_len _ _ _ _ _ _ | exact pipe_set_rd _ _ _ _ _ _ | exact pipe_set_wr _ _ _ _ _ _ | exact pipe_set _ _ _ _ _ (by omega) _ | rfl) ?_))))
   | refine o_move rfl (by decide) ?_
   | refine o_assign rfl (by decide) ?_
   | refine o_nil rfl (by decide) ?_
   | refine o_extract rfl rfl (by decide) ?_
   | refine o_not rfl (by decide) ?_
   | refine o_field0 tabOk rfl rfl rfl rfl rfl (by decide) ?_
   | refine o_field tabOk rfl rfl rfl rfl rfl (by decide) ?_
   | refine o_conv tabOk rfl rfl rfl (by decide) ?_))
theorem pcw_nil : Does Try.prog 42 [.pointer none] [] (fun _ : Unit => True) (fun _ => .tuple #[]) (fun _ => []) := by
  intro w hw
  refine f_enter Try.func42 rfl Try.ntmps42 rfl hw ?_
  repeat' (first
   | (refine s_is ?_; first
   | (refine s_isret ?_; first
   | exact f_end0 rfl () trivial rfl (fun w h => h))
   | (refine s_isw ?_; first
   | refine c_seq ?_
   | refine c_block ?_
   | refine c_region ?_
   | refine c_mixed mixed (by kernel_rfl) ?_
   | refine c_skip ?_
   | refine c_ret ?_
   | refine c_exit ?_
   | (refine s_iscond ?_; first
   | (refine c_true rfl (by first | with_reducible rfl | with_reducible assumption | ((with_reducible refine decide_eq_true ?_); first | with_reducible rfl | with_reducible assumption | omega)) ?_)
   | (refine c_false rfl (by first | with_reducible rfl | with_reducible assumption | ((with_reducible refine decide_eq_false ?_); first | with_reducible assumption | omega)) ?_)
   | (refine c_true rfl (by first | (simp only [Bool.not_eq_true', decide_eq_false_iff_not]; omega) | (with_reducible assumption) | (rw [decide_eq_false] <;> (first | omega | with_reducible rfl)) | (rw [decide_eq_true] <;> (first | omega | with_reducible rfl)) | (simp; done) | (simp; omega)) ?_)
   | (refine c_false rfl (by first | (simp only [Bool.not_eq_false', decide_eq_true_eq]; omega) | (with_reducible assumption) | (rw [decide_eq_false] <;> (first | omega | with_reducible rfl)) | (rw [decide_eq_true] <;> (first | omega | with_reducible rfl)) | (simp; done) | (simp; omega)) ?_)
   | refine c_cond rfl (fun hc => ?_) (fun hc => ?_)
   | refine c_condb rfl (fun hc => ?_) (fun hc => ?_)))
   | refine x_then ?_
   | refine x_then_ret ?_
   | refine x_then_exit ?_
   | refine x_block _ ?_
   | refine x_block_ret _ ?_
   | refine x_block_exit _ ?_
   | refine x_block_past (by decide) ?_
   | refine z_tailm ?_)
   | (refine z_isnil ?_; first
   | refine z_list ?_
   | refine z_mixed ?_
   | refine z_mono0 ?_
   | refine z_mono1 (by decide) fun g => ?_
   | refine z_mono2 (by decide) (by decide) fun g g' => ?_
   | refine z_mixedx ?_
   | refine z_quiet ?_)
   | (refine z_isop ?_; first
   | (refine z_isbin ?_; first
   | (refine z_isb .neq ?_; first
   | refine o_ne rfl rfl (by decide) ?_
   | refine o_bne tabOk rfl rfl rfl (by decide) ?_
   | refine o_pne tabOk rfl rfl (by decide) ?_))
   | (refine z_isstore ?_; first
   | (refine z_stw rfl ?_; first
   | ((refine z_sti 0 rfl rfl ?_; refine o_storeb0 rfl tabOk rfl rfl rfl (by first | rfl) (by first | rfl) (by first | rfl) ?_))
   | ((refine z_sti 1 rfl rfl ?_; refine o_storeb1 rfl tabOk rfl rfl rfl (by first | rfl) (by first | rfl) (by first | rfl) ?_))
   | ((refine z_sti 2 rfl rfl ?_; refine o_storeb2 rfl tabOk rfl rfl rfl (by first | rfl) (by first | rfl) (by first | rfl) ?_))
   | ((refine z_sti 3 rfl rfl ?_; refine o_storeb3 rfl tabOk rfl rfl rfl (by first | rfl) (by first | rfl) (by first | rfl) ?_))
   | ((refine z_sti 4 rfl rfl ?_; refine o_storeb4 rfl tabOk rfl rfl rfl (by first | rfl) (by first | rfl) (by first | rfl) ?_))
   | ((refine z_sti 5 rfl rfl ?_; refine o_storeb5 rfl tabOk rfl rfl rfl (by first | rfl) (by first | rfl) (by first | rfl) ?_))
   | ((refine z_sti 6 rfl rfl ?_; refine o_storeb6 rfl tabOk rfl rfl rfl (by first | rfl) (by first | rfl) (by first | rfl) ?_)))
   | (refine z_st1 rfl rfl ?_; first
   | refine o_store rfl tabOk rfl rfl rfl rfl rfl (by first | exact pipe_at _ _ _ _ _ | exact pipe_len _ _ _ _ _ | exact pipe_rd _ _ _ _ _ | exact pipe_wr _ _ _ _ _ | exact pipe_el _ _ _ _ _ (by omega) | exact u8s_at _ (by omega) | rfl) (by first | exact pipe_set_at _ _ _ _ _ _ | exact pipe_set_len _ _ _ _ _ _ | exact pipe_set_rd _ _ _ _ _ _ | exact pipe_set_wr _ _ _ _ _ _ | exact pipe_set _ _ _ _ _ (by omega) _ | rfl) ?_
   | ((refine z_sti 1 rfl rfl ?_; refine o_store1 rfl tabOk rfl rfl rfl rfl rfl (by first | exact pipe_at _ _ _ _ _ | exact pipe_len _ _ _ _ _ | exact pipe_rd _ _ _ _ _ | exact pipe_wr _ _ _ _ _ | exact pipe_el _ _ _ _ _ (by omega) | exact u8s_at _ (by omega) | rfl) (by first | exact pipe_set_at _ _ _ _ _ _ | exact pipe_set_len _ _ _ _ _ _ | exact pipe_set_rd _ _ _ _ _ _ | exact pipe_set_wr _ _ _ _ _ _ | exact pipe_set _ _ _ _ _ (by omega) _ | rfl) ?_))
   | ((refine z_sti 2 rfl rfl ?_; refine o_store2 rfl tabOk rfl rfl rfl rfl rfl (by first | exact pipe_at _ _ _ _ _ | exact pipe_len _ _ _ _ _ | exact pipe_rd _ _ _ _ _ | exact pipe_wr _ _ _ _ _ | exact pipe_el _ _ _ _ _ (by omega) | exact u8s_at _ (by omega) | rfl) (by first | exact pipe_set_at _ _ _ _ _ _ | exact pipe_set_len _ _ _ _ _ _ | exact pipe_set_rd _ _ _ _ _ _ | exact pipe_set_wr _ _ _ _ _ _ | exact pipe_set _ _ _ _ _ (by omega) _ | rfl) ?_))
   | ((refine z_sti 3 rfl rfl ?_; refine o_store3 rfl tabOk rfl rfl rfl rfl rfl (by first | exact pipe_at _ _ _ _ _ | exact pipe_len _ _ _ _ _ | exact pipe_rd _ _ _ _ _ | exact pipe_wr _ _ _ _ _ | exact pipe_el _ _ _ _ _ (by omega) | exact u8s_at _ (by omega) | rfl) (by first | exact pipe_set_at _ _ _ _ _ _ | exact pipe_set_len _ _ _ _ _ _ | exact pipe_set_rd _ _ _ _ _ _ | exact pipe_set_wr _ _ _ _ _ _ | exact pipe_set _ _ _ _ _ (by omega) _ | rfl) ?_))
   | ((refine z_sti 4 rfl rfl ?_; refine o_store4 rfl tabOk rfl rfl rfl rfl rfl (by first | exact pipe_at _ _ _ _ _ | exact pipe_len _ _ _ _ _ | exact pipe_rd _ _ _ _ _ | exact pipe_wr _ _ _ _ _ | exact pipe_el _ _ _ _ _ (by omega) | exact u8s_at _ (by omega) | rfl) (by first | exact pipe_set_at _ _ _ _ _ _ | exact pipe_set_len _ _ _ _ _ _ | exact pipe_set_rd _ _ _ _ _ _ | exact pipe_set_wr _ _ _ _ _ _ | exact pipe_set _ _ _ _ _ (by omega) _ | rfl) ?_))
   | ((refine z_sti 5 rfl rfl ?_; refine o_store5 rfl tabOk rfl rfl rfl rfl rfl (by first | exact pipe_at _ _ _ _ _ | exact pipe_len _ _ _ _ _ | exact pipe_rd _ _ _ _ _ | exact pipe_wr _ _ _ _ _ | exact pipe_el _ _ _ _ _ (by omega) | exact u8s_at _ (by omega) | rfl) (by first | exact pipe_set_at _ _ _ _ _ _ | exact pipe_set_len _ _ _ _ _ _ | exact pipe_set_rd _ _ _ _ _ _ | exact pipe_set_wr _ _ _ _ _ _ | exact pipe_set _ _ _ _ _ (by omega) _ | rfl) ?_))
   | ((refine z_sti 6 rfl rfl ?_; refine o_store6 rfl tabOk rfl rfl rfl rfl rfl (by first | exact pipe_at _ _ _ _ _ | exact pipe_len _ _ _ _ _ | exact pipe_rd _ _ _ _ _ | exact pipe_wr _ _ _ _ _ | exact pipe_el _ _ _ _ _ (by omega) | exact u8s_at _ (by omega) | rfl) (by first | exact pipe_set_at _ _ _ _ _ _ | exact pipe_set_len _ _ _ _ _ _ | exact pipe_set_rd _ _ _ _ _ _ | exact pipe_set_wr _ _ _ _ _ _ | exact pipe_set _ _ _ _ _ (by omega) _ | rfl) ?_))))
   | refine o_move rfl (by decide) ?_
   | refine o_assign rfl (by decide) ?_
   | refine o_nil rfl (by decide) ?_
   | refine o_extract rfl rfl (by decide) ?_
   | refine o_not rfl (by decide) ?_
   | refine o_field0 tabOk rfl rfl rfl rfl rfl (by decide) ?_
   | refine o_field tabOk rfl rfl rfl rfl rfl (by decide) ?_
   | refine o_conv tabOk rfl rfl rfl (by decide) ?_))
theorem pw_nil (A : Option Addr) (m c : Nat) : Does Try.prog 29 [.pointer none, .slice A m c] [] (fun _ : Unit => True) (fun _ => .tuple #[.int .i64 0, .int .i64 10]) (fun _ => []) := by
  intro w hw
  refine f_enter Try.func29 rfl Try.ntmps29 rfl hw ?_
  repeat' (first
   | (refine s_is ?_; first
   | (refine s_isret ?_; first
   | exact f_ret2 rfl rfl rfl () trivial rfl (fun w h => h))
   | (refine s_isw ?_; first
   | refine c_seq ?_
   | refine c_block ?_
   | refine c_region ?_
   | refine c_mixed mixed (by kernel_rfl) ?_
   | refine c_skip ?_
   | refine c_ret ?_
   | refine c_exit ?_
   | (refine s_iscond ?_; first
   | (refine c_true rfl (by first | with_reducible rfl | with_reducible assumption | ((with_reducible refine decide_eq_true ?_); first | with_reducible rfl | with_reducible assumption | omega)) ?_)
   | (refine c_false rfl (by first | with_reducible rfl | with_reducible assumption | ((with_reducible refine decide_eq_false ?_); first | with_reducible assumption | omega)) ?_)
   | (refine c_true rfl (by first | (simp only [Bool.not_eq_true', decide_eq_false_iff_not]; omega) | (with_reducible assumption) | (rw [decide_eq_false] <;> (first | omega | with_reducible rfl)) | (rw [decide_eq_true] <;> (first | omega | with_reducible rfl)) | (simp; done) | (simp; omega)) ?_)
   | (refine c_false rfl (by first | (simp only [Bool.not_eq_false', decide_eq_true_eq]; omega) | (with_reducible assumption) | (rw [decide_eq_false] <;> (first | omega | with_reducible rfl)) | (rw [decide_eq_true] <;> (first | omega | with_reducible rfl)) | (simp; done) | (simp; omega)) ?_)
   | refine c_cond rfl (fun hc => ?_) (fun hc => ?_)
   | refine c_condb rfl (fun hc => ?_) (fun hc => ?_)))
   | refine x_then ?_
   | refine x_then_ret ?_
   | refine x_then_exit ?_
   | refine x_block _ ?_
   | refine x_block_ret _ ?_
   | refine x_block_exit _ ?_
   | refine x_block_past (by decide) ?_
   | refine z_tailm ?_)
   | (refine z_isg1 ?_; first
   | refine z_skipu (by decide) rfl rfl ?_
   | (refine z_want1 rfl rfl (by first | with_reducible rfl | with_reducible assumption | ((with_reducible refine decide_eq_true ?_); first | with_reducible rfl | with_reducible assumption | omega)) ?_)
   | (refine z_skip1 (by decide) rfl rfl (by first | with_reducible rfl | with_reducible assumption | ((with_reducible refine decide_eq_false ?_); first | with_reducible assumption | omega)) ?_)
   | (refine z_want1 rfl rfl (by first | (simp only [Bool.not_eq_true', decide_eq_false_iff_not]; omega) | (with_reducible assumption) | (rw [decide_eq_false] <;> (first | omega | with_reducible rfl)) | (rw [decide_eq_true] <;> (first | omega | with_reducible rfl)) | (simp; done) | (simp; omega)) ?_)
   | (refine z_skip1 (by decide) rfl rfl (by first | (simp only [Bool.not_eq_false', decide_eq_true_eq]; omega) | (with_reducible assumption) | (rw [decide_eq_false] <;> (first | omega | with_reducible rfl)) | (rw [decide_eq_true] <;> (first | omega | with_reducible rfl)) | (simp; done) | (simp; omega)) ?_)
   | refine z_guard1 (by decide) rfl rfl (fun hc => ?_) (fun hc => ?_)
   | refine z_guardb (by decide) rfl rfl (fun hc => ?_) (fun hc => ?_))
   | (refine z_isg0 ?_; first
   | refine z_skipu (by decide) rfl rfl ?_
   | (refine z_want0 rfl rfl (by first | with_reducible rfl | with_reducible assumption | ((with_reducible refine decide_eq_false ?_); first | with_reducible assumption | omega)) ?_)
   | (refine z_skip0 (by decide) rfl rfl (by first | with_reducible rfl | with_reducible assumption | ((with_reducible refine decide_eq_true ?_); first | with_reducible rfl | with_reducible assumption | omega)) ?_)
   | (refine z_want0 rfl rfl (by first | (simp only [Bool.not_eq_false', decide_eq_true_eq]; omega) | (with_reducible assumption) | (rw [decide_eq_false] <;> (first | omega | with_reducible rfl)) | (rw [decide_eq_true] <;> (first | omega | with_reducible rfl)) | (simp; done) | (simp; omega)) ?_)
   | (refine z_skip0 (by decide) rfl rfl (by first | (simp only [Bool.not_eq_true', decide_eq_false_iff_not]; omega) | (with_reducible assumption) | (rw [decide_eq_false] <;> (first | omega | with_reducible rfl)) | (rw [decide_eq_true] <;> (first | omega | with_reducible rfl)) | (simp; done) | (simp; omega)) ?_)
   | refine z_guard0 (by decide) rfl rfl (fun hc => ?_) (fun hc => ?_)
   | refine z_guardb (by decide) rfl rfl (fun hc => ?_) (fun hc => ?_))
   | (refine z_isnil ?_; first
   | refine z_list ?_
   | refine z_mixed ?_
   | refine z_mono0 ?_
   | refine z_mono1 (by decide) fun g => ?_
   | refine z_mono2 (by decide) (by decide) fun g g' => ?_
   | refine z_mixedx ?_
   | refine z_quiet ?_)
   | (refine z_isop ?_; first
   | (refine z_isbin ?_; first
   | (refine z_isb .add ?_; first
   | refine o_add rfl rfl (by omega) (by omega) (by decide) ?_
   | refine o_addw rfl rfl (by decide) ?_)
   | (refine z_isb .sub ?_; first
   | refine o_sub rfl rfl (by omega) (by omega) (by decide) ?_
   | refine o_subw rfl rfl (by decide) ?_)
   | (refine z_isb .eql ?_; first
   | refine o_eq rfl rfl (by decide) ?_
   | refine o_beq tabOk rfl rfl rfl (by decide) ?_
   | refine o_peq tabOk rfl rfl (by decide) ?_)
   | (refine z_isb .lss ?_; first
   | refine o_lt rfl rfl (by decide) ?_)
   | (refine z_isb .gtr ?_; first
   | refine o_gt rfl rfl (by decide) ?_)
   | (refine z_isb .rem ?_; first
   | refine o_rem rfl rfl (by omega) (by omega) (by decide) ?_
   | refine o_remk rfl rfl (by omega) (by omega) (by decide) ?_
   | refine o_remt rfl rfl (by omega) (by decide) ?_))
   | (refine z_isload ?_; first
   | (refine z_ld1 tabOk rfl rfl ?_; first
   | refine o_loadm tabOk rfl rfl rfl (by repeat' (first | exact List.mem_cons_self | apply List.mem_cons_of_mem)) (by first | exact pipe_at _ _ _ _ _ | exact pipe_len _ _ _ _ _ | exact pipe_rd _ _ _ _ _ | exact pipe_wr _ _ _ _ _ | exact pipe_el _ _ _ _ _ (by omega) | exact u8s_at _ (by omega) | rfl) (by decide) ?_
   | refine o_loads tabOk (by first | assumption | exact Rds.cons _ (by assumption) | exact Rds.cons _ (Rds.cons _ (by assumption)) | exact own_rds 0 rfl | exact own_rds 1 rfl | exact own_rds 2 rfl) rfl rfl rfl (by first | exact pipe_at _ _ _ _ _ | exact pipe_len _ _ _ _ _ | exact pipe_rd _ _ _ _ _ | exact pipe_wr _ _ _ _ _ | exact pipe_el _ _ _ _ _ (by omega) | exact u8s_at _ (by omega) | rfl) (by decide) ?_)
   | (refine z_ldw tabOk rfl rfl ?_; first
   | refine o_loadwm tabOk rfl rfl rfl (by repeat' (first | exact List.mem_cons_self | apply List.mem_cons_of_mem)) (by first | rfl) (by decide) ?_))
   | (refine z_isstore ?_; first
   | (refine z_stw rfl ?_; first
   | ((refine z_sti 0 rfl rfl ?_; refine o_storeb0 rfl tabOk rfl rfl rfl (by first | rfl) (by first | rfl) (by first | rfl) ?_))
   | ((refine z_sti 1 rfl rfl ?_; refine o_storeb1 rfl tabOk rfl rfl rfl (by first | rfl) (by first | rfl) (by first | rfl) ?_))
   | ((refine z_sti 2 rfl rfl ?_; refine o_storeb2 rfl tabOk rfl rfl rfl (by first | rfl) (by first | rfl) (by first | rfl) ?_))
   | ((refine z_sti 3 rfl rfl ?_; refine o_storeb3 rfl tabOk rfl rfl rfl (by first | rfl) (by first | rfl) (by first | rfl) ?_))
   | ((refine z_sti 4 rfl rfl ?_; refine o_storeb4 rfl tabOk rfl rfl rfl (by first | rfl) (by first | rfl) (by first | rfl) ?_))
   | ((refine z_sti 5 rfl rfl ?_; refine o_storeb5 rfl tabOk rfl rfl rfl (by first | rfl) (by first | rfl) (by first | rfl) ?_))
   | ((refine z_sti 6 rfl rfl ?_; refine o_storeb6 rfl tabOk rfl rfl rfl (by first | rfl) (by first | rfl) (by first | rfl) ?_)))
   | (refine z_st1 rfl rfl ?_; first
   | refine o_store rfl tabOk rfl rfl rfl rfl rfl (by first | exact pipe_at _ _ _ _ _ | exact pipe_len _ _ _ _ _ | exact pipe_rd _ _ _ _ _ | exact pipe_wr _ _ _ _ _ | exact pipe_el _ _ _ _ _ (by omega) | exact u8s_at _ (by omega) | rfl) (by first | exact pipe_set_at _ _ _ _ _ _ | exact pipe_set_len _ _ _ _ _ _ | exact pipe_set_rd _ _ _ _ _ _ | exact pipe_set_wr _ _ _ _ _ _ | exact pipe_set _ _ _ _ _ (by omega) _ | rfl) ?_
   | ((refine z_sti 1 rfl rfl ?_; refine o_store1 rfl tabOk rfl rfl rfl rfl rfl (by first | exact pipe_at _ _ _ _ _ | exact pipe_len _ _ _ _ _ | exact pipe_rd _ _ _ _ _ | exact pipe_wr _ _ _ _ _ | exact pipe_el _ _ _ _ _ (by omega) | exact u8s_at _ (by omega) | rfl) (by first | exact pipe_set_at _ _ _ _ _ _ | exact pipe_set_len _ _ _ _ _ _ | exact pipe_set_rd _ _ _ _ _ _ | exact pipe_set_wr _ _ _ _ _ _ | exact pipe_set _ _ _ _ _ (by omega) _ | rfl) ?_))
   | ((refine z_sti 2 rfl rfl ?_; refine o_store2 rfl tabOk rfl rfl rfl rfl rfl (by first | exact pipe_at _ _ _ _ _ | exact pipe_len _ _ _ _ _ | exact pipe_rd _ _ _ _ _ | exact pipe_wr _ _ _ _ _ | exact pipe_el _ _ _ _ _ (by omega) | exact u8s_at _ (by omega) | rfl) (by first | exact pipe_set_at _ _ _ _ _ _ | exact pipe_set_len _ _ _ _ _ _ | exact pipe_set_rd _ _ _ _ _ _ | exact pipe_set_wr _ _ _ _ _ _ | exact pipe_set _ _ _ _ _ (by omega) _ | rfl) ?_))
   | ((refine z_sti 3 rfl rfl ?_; refine o_store3 rfl tabOk rfl rfl rfl rfl rfl (by first | exact pipe_at _ _ _ _ _ | exact pipe_len _ _ _ _ _ | exact pipe_rd _ _ _ _ _ | exact pipe_wr _ _ _ _ _ | exact pipe_el _ _ _ _ _ (by omega) | exact u8s_at _ (by omega) | rfl) (by first | exact pipe_set_at _ _ _ _ _ _ | exact pipe_set_len _ _ _ _ _ _ | exact pipe_set_rd _ _ _ _ _ _ | exact pipe_set_wr _ _ _ _ _ _ | exact pipe_set _ _ _ _ _ (by omega) _ | rfl) ?_))
   | ((refine z_sti 4 rfl rfl ?_; refine o_store4 rfl tabOk rfl rfl rfl rfl rfl (by first | exact pipe_at _ _ _ _ _ | exact pipe_len _ _ _ _ _ | exact pipe_rd _ _ _ _ _ | exact pipe_wr _ _ _ _ _ | exact pipe_el _ _ _ _ _ (by omega) | exact u8s_at _ (by omega) | rfl) (by first | exact pipe_set_at _ _ _ _ _ _ | exact pipe_set_len _ _ _ _ _ _ | exact pipe_set_rd _ _ _ _ _ _ | exact pipe_set_wr _ _ _ _ _ _ | exact pipe_set _ _ _ _ _ (by omega) _ | rfl) ?_))
   | ((refine z_sti 5 rfl rfl ?_; refine o_store5 rfl tabOk rfl rfl rfl rfl rfl (by first | exact pipe_at _ _ _ _ _ | exact pipe_len _ _ _ _ _ | exact pipe_rd _ _ _ _ _ | exact pipe_wr _ _ _ _ _ | exact pipe_el _ _ _ _ _ (by omega) | exact u8s_at _ (by omega) | rfl) (by first | exact pipe_set_at _ _ _ _ _ _ | exact pipe_set_len _ _ _ _ _ _ | exact pipe_set_rd _ _ _ _ _ _ | exact pipe_set_wr _ _ _ _ _ _ | exact pipe_set _ _ _ _ _ (by omega) _ | rfl) ?_))
   | ((refine z_sti 6 rfl rfl ?_; refine o_store6 rfl tabOk rfl rfl rfl rfl rfl (by first | exact pipe_at _ _ _ _ _ | exact pipe_len _ _ _ _ _ | exact pipe_rd _ _ _ _ _ | exact pipe_wr _ _ _ _ _ | exact pipe_el _ _ _ _ _ (by omega) | exact u8s_at _ (by omega) | rfl) (by first | exact pipe_set_at _ _ _ _ _ _ | exact pipe_set_len _ _ _ _ _ _ | exact pipe_set_rd _ _ _ _ _ _ | exact pipe_set_wr _ _ _ _ _ _ | exact pipe_set _ _ _ _ _ (by omega) _ | rfl) ?_))))
   | (refine z_ispick ?_; first
   | (refine o_pick1 rfl (by first | with_reducible rfl | with_reducible assumption | ((with_reducible refine decide_eq_true ?_); first | with_reducible rfl | with_reducible assumption | omega)) rfl (by decide) ?_)
   | (refine o_pick0 rfl (by first | with_reducible rfl | with_reducible assumption | ((with_reducible refine decide_eq_false ?_); first | with_reducible assumption | omega)) rfl (by decide) ?_)
   | (refine o_pick1 rfl (by first | (simp only [Bool.not_eq_true', decide_eq_false_iff_not]; omega) | (with_reducible assumption) | (rw [decide_eq_false] <;> (first | omega | with_reducible rfl)) | (rw [decide_eq_true] <;> (first | omega | with_reducible rfl)) | (simp; done) | (simp; omega)) rfl (by decide) ?_)
   | (refine o_pick0 rfl (by first | (simp only [Bool.not_eq_false', decide_eq_true_eq]; omega) | (with_reducible assumption) | (rw [decide_eq_false] <;> (first | omega | with_reducible rfl)) | (rw [decide_eq_true] <;> (first | omega | with_reducible rfl)) | (simp; done) | (simp; omega)) rfl (by decide) ?_))
   | (refine z_isix ?_; first
   | refine o_index0 tabOk rfl rfl rfl rfl (by omega) (by omega) (by decide) ?_
   | refine o_index1 tabOk rfl rfl rfl rfl (by omega) (by omega) (by decide) ?_
   | refine o_indexsk tabOk rfl rfl rfl rfl (by omega) (by omega) (by decide) ?_
   | refine o_indexs1 tabOk (by first | assumption | exact hne (by omega) | assumption) rfl rfl rfl rfl (by omega) (by omega) (by decide) ?_)
   | (refine z_isslice ?_; first
   | refine o_slice tabOk rfl rfl rfl rfl rfl (by omega) (by omega) (by omega) (by decide) ?_
   | refine o_slicel tabOk rfl rfl rfl rfl (by omega) (by omega) (by omega) (by decide) ?_
   | refine o_sliceh tabOk rfl rfl rfl rfl (by omega) (by omega) (by decide) ?_
   | refine o_slp tabOk rfl rfl rfl rfl rfl (by omega) (by omega) (by omega) (by omega) (by decide) ?_
   | refine o_slpl tabOk rfl rfl rfl rfl (by omega) (by omega) (by decide) ?_
   | refine o_slp0 tabOk rfl rfl rfl rfl (by decide) ?_)
   | (refine z_isbi ?_; first
   | refine o_len tabOk rfl rfl (by decide) ?_
   | refine o_min rfl rfl (by decide) ?_
   | refine o_max rfl rfl (by decide) ?_)
   | refine o_move rfl (by decide) ?_
   | refine o_assign rfl (by decide) ?_
   | refine o_nil rfl (by decide) ?_
   | refine o_extract rfl rfl (by decide) ?_
   | refine o_not rfl (by decide) ?_
   | refine o_field0 tabOk rfl rfl rfl rfl rfl (by decide) ?_
   | refine o_field tabOk rfl rfl rfl rfl rfl (by decide) ?_
   | refine o_conv tabOk rfl rfl rfl (by decide) ?_))
theorem pr_nil : Does Try.prog 30 [.pointer none, .int .i64 x] [] (fun _ : Unit => True) (fun _ => .tuple #[.slice none 0 0, .int .i64 10]) (fun _ => []) := by
  intro w hw
  refine f_enter Try.func30 rfl Try.ntmps30 rfl hw ?_
  repeat' (first
   | (refine s_is ?_; first
   | (refine s_isret ?_; first
   | exact f_ret2 rfl rfl rfl () trivial rfl (fun w h => h))
   | (refine s_isw ?_; first
   | refine c_seq ?_
   | refine c_block ?_
   | refine c_region ?_
   | refine c_mixed mixed (by kernel_rfl) ?_
   | refine c_skip ?_
   | refine c_ret ?_
   | refine c_exit ?_
   | (refine s_iscond ?_; first
   | (refine c_true rfl (by first | with_reducible rfl | with_reducible assumption | ((with_reducible refine decide_eq_true ?_); first | with_reducible rfl | with_reducible assumption | omega)) ?_)
   | (refine c_false rfl (by first | with_reducible rfl | with_reducible assumption | ((with_reducible refine decide_eq_false ?_); first | with_reducible assumption | omega)) ?_)
   | (refine c_true rfl (by first | (simp only [Bool.not_eq_true', decide_eq_false_iff_not]; omega) | (with_reducible assumption) | (rw [decide_eq_false] <;> (first | omega | with_reducible rfl)) | (rw [decide_eq_true] <;> (first | omega | with_reducible rfl)) | (simp; done) | (simp; omega)) ?_)
   | (refine c_false rfl (by first | (simp only [Bool.not_eq_false', decide_eq_true_eq]; omega) | (with_reducible assumption) | (rw [decide_eq_false] <;> (first | omega | with_reducible rfl)) | (rw [decide_eq_true] <;> (first | omega | with_reducible rfl)) | (simp; done) | (simp; omega)) ?_)
   | refine c_cond rfl (fun hc => ?_) (fun hc => ?_)
   | refine c_condb rfl (fun hc => ?_) (fun hc => ?_)))
   | refine x_then ?_
   | refine x_then_ret ?_
   | refine x_then_exit ?_
   | refine x_block _ ?_
   | refine x_block_ret _ ?_
   | refine x_block_exit _ ?_
   | refine x_block_past (by decide) ?_
   | refine z_tailm ?_)
   | (refine z_isg1 ?_; first
   | refine z_skipu (by decide) rfl rfl ?_
   | (refine z_want1 rfl rfl (by first | with_reducible rfl | with_reducible assumption | ((with_reducible refine decide_eq_true ?_); first | with_reducible rfl | with_reducible assumption | omega)) ?_)
   | (refine z_skip1 (by decide) rfl rfl (by first | with_reducible rfl | with_reducible assumption | ((with_reducible refine decide_eq_false ?_); first | with_reducible assumption | omega)) ?_)
   | (refine z_want1 rfl rfl (by first | (simp only [Bool.not_eq_true', decide_eq_false_iff_not]; omega) | (with_reducible assumption) | (rw [decide_eq_false] <;> (first | omega | with_reducible rfl)) | (rw [decide_eq_true] <;> (first | omega | with_reducible rfl)) | (simp; done) | (simp; omega)) ?_)
   | (refine z_skip1 (by decide) rfl rfl (by first | (simp only [Bool.not_eq_false', decide_eq_true_eq]; omega) | (with_reducible assumption) | (rw [decide_eq_false] <;> (first | omega | with_reducible rfl)) | (rw [decide_eq_true] <;> (first | omega | with_reducible rfl)) | (simp; done) | (simp; omega)) ?_)
   | refine z_guard1 (by decide) rfl rfl (fun hc => ?_) (fun hc => ?_)
   | refine z_guardb (by decide) rfl rfl (fun hc => ?_) (fun hc => ?_))
   | (refine z_isg0 ?_; first
   | refine z_skipu (by decide) rfl rfl ?_
   | (refine z_want0 rfl rfl (by first | with_reducible rfl | with_reducible assumption | ((with_reducible refine decide_eq_false ?_); first | with_reducible assumption | omega)) ?_)
   | (refine z_skip0 (by decide) rfl rfl (by first | with_reducible rfl | with_reducible assumption | ((with_reducible refine decide_eq_true ?_); first | with_reducible rfl | with_reducible assumption | omega)) ?_)
   | (refine z_want0 rfl rfl (by first | (simp only [Bool.not_eq_false', decide_eq_true_eq]; omega) | (with_reducible assumption) | (rw [decide_eq_false] <;> (first | omega | with_reducible rfl)) | (rw [decide_eq_true] <;> (first | omega | with_reducible rfl)) | (simp; done) | (simp; omega)) ?_)
   | (refine z_skip0 (by decide) rfl rfl (by first | (simp only [Bool.not_eq_true', decide_eq_false_iff_not]; omega) | (with_reducible assumption) | (rw [decide_eq_false] <;> (first | omega | with_reducible rfl)) | (rw [decide_eq_true] <;> (first | omega | with_reducible rfl)) | (simp; done) | (simp; omega)) ?_)
   | refine z_guard0 (by decide) rfl rfl (fun hc => ?_) (fun hc => ?_)
   | refine z_guardb (by decide) rfl rfl (fun hc => ?_) (fun hc => ?_))
   | (refine z_isnil ?_; first
   | refine z_list ?_
   | refine z_mixed ?_
   | refine z_mono0 ?_
   | refine z_mono1 (by decide) fun g => ?_
   | refine z_mono2 (by decide) (by decide) fun g g' => ?_
   | refine z_mixedx ?_
   | refine z_quiet ?_)
   | (refine z_isop ?_; first
   | (refine z_isbin ?_; first
   | (refine z_isb .add ?_; first
   | refine o_add rfl rfl (by omega) (by omega) (by decide) ?_
   | refine o_addw rfl rfl (by decide) ?_)
   | (refine z_isb .sub ?_; first
   | refine o_sub rfl rfl (by omega) (by omega) (by decide) ?_
   | refine o_subw rfl rfl (by decide) ?_)
   | (refine z_isb .eql ?_; first
   | refine o_eq rfl rfl (by decide) ?_
   | refine o_beq tabOk rfl rfl rfl (by decide) ?_
   | refine o_peq tabOk rfl rfl (by decide) ?_)
   | (refine z_isb .lss ?_; first
   | refine o_lt rfl rfl (by decide) ?_)
   | (refine z_isb .gtr ?_; first
   | refine o_gt rfl rfl (by decide) ?_)
   | (refine z_isb .rem ?_; first
   | refine o_rem rfl rfl (by omega) (by omega) (by decide) ?_
   | refine o_remk rfl rfl (by omega) (by omega) (by decide) ?_
   | refine o_remt rfl rfl (by omega) (by decide) ?_))
   | (refine z_isload ?_; first
   | (refine z_ld1 tabOk rfl rfl ?_; first
   | refine o_loadm tabOk rfl rfl rfl (by repeat' (first | exact List.mem_cons_self | apply List.mem_cons_of_mem)) (by first | exact pipe_at _ _ _ _ _ | exact pipe_len _ _ _ _ _ | exact pipe_rd _ _ _ _ _ | exact pipe_wr _ _ _ _ _ | exact pipe_el _ _ _ _ _ (by omega) | exact u8s_at _ (by omega) | rfl) (by decide) ?_
   | refine o_loads tabOk (by first | assumption | exact Rds.cons _ (by assumption) | exact Rds.cons _ (Rds.cons _ (by assumption)) | exact own_rds 0 rfl | exact own_rds 1 rfl | exact own_rds 2 rfl) rfl rfl rfl (by first | exact pipe_at _ _ _ _ _ | exact pipe_len _ _ _ _ _ | exact pipe_rd _ _ _ _ _ | exact pipe_wr _ _ _ _ _ | exact pipe_el _ _ _ _ _ (by omega) | exact u8s_at _ (by omega) | rfl) (by decide) ?_)
   | (refine z_ldw tabOk rfl rfl ?_; first
   | refine o_loadwm tabOk rfl rfl rfl (by repeat' (first | exact List.mem_cons_self | apply List.mem_cons_of_mem)) (by first | rfl) (by decide) ?_))
   | (refine z_isstore ?_; first
   | (refine z_stw rfl ?_; first
   | ((refine z_sti 0 rfl rfl ?_; refine o_storeb0 rfl tabOk rfl rfl rfl (by first | rfl) (by first | rfl) (by first | rfl) ?_))
   | ((refine z_sti 1 rfl rfl ?_; refine o_storeb1 rfl tabOk rfl rfl rfl (by first | rfl) (by first | rfl) (by first | rfl) ?_))
   | ((refine z_sti 2 rfl rfl ?_; refine o_storeb2 rfl tabOk rfl rfl rfl (by first | rfl) (by first | rfl) (by first | rfl) ?_))
   | ((refine z_sti 3 rfl rfl ?_; refine o_storeb3 rfl tabOk rfl rfl rfl (by first | rfl) (by first | rfl) (by first | rfl) ?_))
   | ((refine z_sti 4 rfl rfl ?_; refine o_storeb4 rfl tabOk rfl rfl rfl (by first | rfl) (by first | rfl) (by first | rfl) ?_))
   | ((refine z_sti 5 rfl rfl ?_; refine o_storeb5 rfl tabOk rfl rfl rfl (by first | rfl) (by first | rfl) (by first | rfl) ?_))
   | ((refine z_sti 6 rfl rfl ?_; refine o_storeb6 rfl tabOk rfl rfl rfl (by first | rfl) (by first | rfl) (by first | rfl) ?_)))
   | (refine z_st1 rfl rfl ?_; first
   | refine o_store rfl tabOk rfl rfl rfl rfl rfl (by first | exact pipe_at _ _ _ _ _ | exact pipe_len _ _ _ _ _ | exact pipe_rd _ _ _ _ _ | exact pipe_wr _ _ _ _ _ | exact pipe_el _ _ _ _ _ (by omega) | exact u8s_at _ (by omega) | rfl) (by first | exact pipe_set_at _ _ _ _ _ _ | exact pipe_set_len _ _ _ _ _ _ | exact pipe_set_rd _ _ _ _ _ _ | exact pipe_set_wr _ _ _ _ _ _ | exact pipe_set _ _ _ _ _ (by omega) _ | rfl) ?_
   | ((refine z_sti 1 rfl rfl ?_; refine o_store1 rfl tabOk rfl rfl rfl rfl rfl (by first | exact pipe_at _ _ _ _ _ | exact pipe_len _ _ _ _ _ | exact pipe_rd _ _ _ _ _ | exact pipe_wr _ _ _ _ _ | exact pipe_el _ _ _ _ _ (by omega) | exact u8s_at _ (by omega) | rfl) (by first | exact pipe_set_at _ _ _ _ _ _ | exact pipe_set_len _ _ _ _ _ _ | exact pipe_set_rd _ _ _ _ _ _ | exact pipe_set_wr _ _ _ _ _ _ | exact pipe_set _ _ _ _ _ (by omega) _ | rfl) ?_))
   | ((refine z_sti 2 rfl rfl ?_; refine o_store2 rfl tabOk rfl rfl rfl rfl rfl (by first | exact pipe_at _ _ _ _ _ | exact pipe_len _ _ _ _ _ | exact pipe_rd _ _ _ _ _ | exact pipe_wr _ _ _ _ _ | exact pipe_el _ _ _ _ _ (by omega) | exact u8s_at _ (by omega) | rfl) (by first | exact pipe_set_at _ _ _ _ _ _ | exact pipe_set_len _ _ _ _ _ _ | exact pipe_set_rd _ _ _ _ _ _ | exact pipe_set_wr _ _ _ _ _ _ | exact pipe_set _ _ _ _ _ (by omega) _ | rfl) ?_))
   | ((refine z_sti 3 rfl rfl ?_; refine o_store3 rfl tabOk rfl rfl rfl rfl rfl (by first | exact pipe_at _ _ _ _ _ | exact pipe_len _ _ _ _ _ | exact pipe_rd _ _ _ _ _ | exact pipe_wr _ _ _ _ _ | exact pipe_el _ _ _ _ _ (by omega) | exact u8s_at _ (by omega) | rfl) (by first | exact pipe_set_at _ _ _ _ _ _ | exact pipe_set_len _ _ _ _ _ _ | exact pipe_set_rd _ _ _ _ _ _ | exact pipe_set_wr _ _ _ _ _ _ | exact pipe_set _ _ _ _ _ (by omega) _ | rfl) ?_))
   | ((refine z_sti 4 rfl rfl ?_; refine o_store4 rfl tabOk rfl rfl rfl rfl rfl (by first | exact pipe_at _ _ _ _ _ | exact pipe_len _ _ _ _ _ | exact pipe_rd _ _ _ _ _ | exact pipe_wr _ _ _ _ _ | exact pipe_el _ _ _ _ _ (by omega) | exact u8s_at _ (by omega) | rfl) (by first | exact pipe_set_at _ _ _ _ _ _ | exact pipe_set_len _ _ _ _ _ _ | exact pipe_set_rd _ _ _ _ _ _ | exact pipe_set_wr _ _ _ _ _ _ | exact pipe_set _ _ _ _ _ (by omega) _ | rfl) ?_))
   | ((refine z_sti 5 rfl rfl ?_; refine o_store5 rfl tabOk rfl rfl rfl rfl rfl (by first | exact pipe_at _ _ _ _ _ | exact pipe_len _ _ _ _ _ | exact pipe_rd _ _ _ _ _ | exact pipe_wr _ _ _ _ _ | exact pipe_el _ _ _ _ _ (by omega) | exact u8s_at _ (by omega) | rfl) (by first | exact pipe_set_at _ _ _ _ _ _ | exact pipe_set_len _ _ _ _ _ _ | exact pipe_set_rd _ _ _ _ _ _ | exact pipe_set_wr _ _ _ _ _ _ | exact pipe_set _ _ _ _ _ (by omega) _ | rfl) ?_))
   | ((refine z_sti 6 rfl rfl ?_; refine o_store6 rfl tabOk rfl rfl rfl rfl rfl (by first | exact pipe_at _ _ _ _ _ | exact pipe_len _ _ _ _ _ | exact pipe_rd _ _ _ _ _ | exact pipe_wr _ _ _ _ _ | exact pipe_el _ _ _ _ _ (by omega) | exact u8s_at _ (by omega) | rfl) (by first | exact pipe_set_at _ _ _ _ _ _ | exact pipe_set_len _ _ _ _ _ _ | exact pipe_set_rd _ _ _ _ _ _ | exact pipe_set_wr _ _ _ _ _ _ | exact pipe_set _ _ _ _ _ (by omega) _ | rfl) ?_))))
   | (refine z_ismakes ?_; first
   | refine o_make1 rfl tabOk zeroOk rfl rfl rfl rfl rfl (by decide) fun g => ?_)
   | (refine z_ispick ?_; first
   | (refine o_pick1 rfl (by first | with_reducible rfl | with_reducible assumption | ((with_reducible refine decide_eq_true ?_); first | with_reducible rfl | with_reducible assumption | omega)) rfl (by decide) ?_)
   | (refine o_pick0 rfl (by first | with_reducible rfl | with_reducible assumption | ((with_reducible refine decide_eq_false ?_); first | with_reducible assumption | omega)) rfl (by decide) ?_)
   | (refine o_pick1 rfl (by first | (simp only [Bool.not_eq_true', decide_eq_false_iff_not]; omega) | (with_reducible assumption) | (rw [decide_eq_false] <;> (first | omega | with_reducible rfl)) | (rw [decide_eq_true] <;> (first | omega | with_reducible rfl)) | (simp; done) | (simp; omega)) rfl (by decide) ?_)
   | (refine o_pick0 rfl (by first | (simp only [Bool.not_eq_false', decide_eq_true_eq]; omega) | (with_reducible assumption) | (rw [decide_eq_false] <;> (first | omega | with_reducible rfl)) | (rw [decide_eq_true] <;> (first | omega | with_reducible rfl)) | (simp; done) | (simp; omega)) rfl (by decide) ?_))
   | (refine z_isix ?_; first
   | refine o_index0 tabOk rfl rfl rfl rfl (by omega) (by omega) (by decide) ?_
   | refine o_index1 tabOk rfl rfl rfl rfl (by omega) (by omega) (by decide) ?_
   | refine o_indexsk tabOk rfl rfl rfl rfl (by omega) (by omega) (by decide) ?_
   | refine o_indexs1 tabOk (by first | assumption | exact hne (by omega) | assumption) rfl rfl rfl rfl (by omega) (by omega) (by decide) ?_)
   | (refine z_isbi ?_; first
   | refine o_len tabOk rfl rfl (by decide) ?_
   | refine o_min rfl rfl (by decide) ?_
   | refine o_max rfl rfl (by decide) ?_
   | (refine o_append0 rfl tabOk zeroOk rfl rfl rfl rfl rfl rfl (by first | assumption | exact Rds.cons _ (by assumption) | exact Rds.cons _ (Rds.cons _ (by assumption)) | exact own_rds 0 rfl | exact own_rds 1 rfl | exact own_rds 2 rfl) (by first | rfl | (simp; done)) (by first | rfl | (simp; done)) (by omega) (by omega) (by decide) fun A' c' => ?_)
   | (refine o_append rfl tabOk zeroOk rfl rfl rfl rfl rfl rfl (by first | assumption | exact Rds.cons _ (by assumption) | exact Rds.cons _ (Rds.cons _ (by assumption)) | exact own_rds 0 rfl | exact own_rds 1 rfl | exact own_rds 2 rfl) (by first | rfl | (simp; done)) (by first | rfl | (simp; done)) (by omega) (by omega) (by decide) fun A' c' => ?_)
   | (refine z_front rfl 1 rfl ?_; refine o_append rfl tabOk zeroOk rfl rfl rfl rfl rfl rfl (by first | assumption | exact Rds.cons _ (by assumption) | exact Rds.cons _ (Rds.cons _ (by assumption)) | exact own_rds 0 rfl | exact own_rds 1 rfl | exact own_rds 2 rfl) (by first | rfl | (simp; done)) (by first | rfl | (simp; done)) (by omega) (by omega) (by decide) fun A' c' => ?_)
   | (refine z_front rfl 2 rfl ?_; refine o_append rfl tabOk zeroOk rfl rfl rfl rfl rfl rfl (by first | assumption | exact Rds.cons _ (by assumption) | exact Rds.cons _ (Rds.cons _ (by assumption)) | exact own_rds 0 rfl | exact own_rds 1 rfl | exact own_rds 2 rfl) (by first | rfl | (simp; done)) (by first | rfl | (simp; done)) (by omega) (by omega) (by decide) fun A' c' => ?_)
   | (refine z_front rfl 3 rfl ?_; refine o_append rfl tabOk zeroOk rfl rfl rfl rfl rfl rfl (by first | assumption | exact Rds.cons _ (by assumption) | exact Rds.cons _ (Rds.cons _ (by assumption)) | exact own_rds 0 rfl | exact own_rds 1 rfl | exact own_rds 2 rfl) (by first | rfl | (simp; done)) (by first | rfl | (simp; done)) (by omega) (by omega) (by decide) fun A' c' => ?_)
   | (refine z_front rfl 4 rfl ?_; refine o_append rfl tabOk zeroOk rfl rfl rfl rfl rfl rfl (by first | assumption | exact Rds.cons _ (by assumption) | exact Rds.cons _ (Rds.cons _ (by assumption)) | exact own_rds 0 rfl | exact own_rds 1 rfl | exact own_rds 2 rfl) (by first | rfl | (simp; done)) (by first | rfl | (simp; done)) (by omega) (by omega) (by decide) fun A' c' => ?_)
   | (refine z_front rfl 5 rfl ?_; refine o_append rfl tabOk zeroOk rfl rfl rfl rfl rfl rfl (by first | assumption | exact Rds.cons _ (by assumption) | exact Rds.cons _ (Rds.cons _ (by assumption)) | exact own_rds 0 rfl | exact own_rds 1 rfl | exact own_rds 2 rfl) (by first | rfl | (simp; done)) (by first | rfl | (simp; done)) (by omega) (by omega) (by decide) fun A' c' => ?_))
   | refine o_move rfl (by decide) ?_
   | refine o_assign rfl (by decide) ?_
   | refine o_nil rfl (by decide) ?_
   | refine o_extract rfl rfl (by decide) ?_
   | refine o_not rfl (by decide) ?_
   | refine o_field0 tabOk rfl rfl rfl rfl rfl (by decide) ?_
   | refine o_field tabOk rfl rfl rfl rfl rfl (by decide) ?_
   | refine o_conv tabOk rfl rfl rfl (by decide) ?_))
theorem plenq (f g : Bool) : Does Try.prog 32 [pp b] [pipeQ b q f g] (fun _ : Unit => True) (fun _ => .int .i64 q.length) (fun _ => [pipeQ b q f g]) :=
  Does.open_ (fun y _ => plen_c b y.1 y.2 _ f g) fun y hy _ _ => ⟨(), trivial, rfl, fun B w h => h.hide y hy rfl⟩
theorem popenq (f g : Bool) : Does Try.prog 40 [pp b] [pipeQ b q f g] (fun _ : Unit => True) (fun _ => .tuple #[.bool f, .bool g]) (fun _ => [pipeQ b q f g]) :=
  Does.open_ (fun y _ => popen_c b y.1 y.2 _ f g) fun y hy _ _ => ⟨(), trivial, rfl, fun B w h => h.hide y hy rfl⟩
theorem pcrq (f g : Bool) : Does Try.prog 41 [pp b] [pipeQ b q f g] (fun _ : Unit => True) (fun _ => .tuple #[]) (fun _ => [pipeQ b [] false g]) :=
  Does.open_ (fun y _ => pcr_c b y.1 y.2 _ f g) fun y hy _ _ => ⟨(), trivial, rfl, fun B w h => h.hide y hy.none rfl⟩
theorem pcwq (f g : Bool) : Does Try.prog 42 [pp b] [pipeQ b q f g] (fun _ : Unit => True) (fun _ => .tuple #[]) (fun _ => [pipeQ b q f false]) :=
  Does.open_ (fun y _ => pcw_c b y.1 y.2 _ f g) fun y hy _ _ => ⟨(), trivial, rfl, fun B w h => h.hide y hy rfl⟩
end
end Go.Proofs.Ytjejnlfbonpfaaa
