/-
The document's pipe: a list of bytes, written, read.
-/
import Derived.Test.YtjejnlfbonpfaaaPipe4
import Derived.Test.YtjejnlfbonpfaaaEng9
namespace Go.Proofs.Ytjejnlfbonpfaaa
set_option linter.unusedVariables false
set_option linter.unusedSimpArgs false
open Eng
attribute [local irreducible] Eng.Z Eng.S Eng.arr pipeCs Eng.some_ Eng.own Eng.cells Eng.old
theorem u8s_cat (s t : List Int) : u8s (s ++ t) = u8s s ++ u8s t := by simp [u8s]
theorem u8s_one (s : List Int) : (u8s s).all (·.oneCell') = true := by simp [u8s]; intros; rfl
theorem u8s_len (s : List Int) : (u8s s).length = s.length := by simp [u8s]
theorem u8s_drop (s : List Int) (m : Nat) : u8s (s.drop m) = (u8s s).drop m := by simp [u8s, List.map_drop]
theorem u8s_take (s : List Int) (m : Nat) : u8s (s.take m) = (u8s s).take m := by simp [u8s, List.map_take]
/-- Where the lists of a state lie. -/
structure Pl where
  Al : Option Addr
  cl : Nat
  Aw : Option Addr
  cw : Nat
  At : Option Addr
  ct : Nat
def stCs (p : Pl) (q wr tk : Nat) (f g : Bool) : List Value := [.slice p.Al q p.cl, .bool f, .bool g, .slice p.Aw wr p.cw, .slice p.At tk p.ct]
/-- A state: its block, its three lists. -/
abbrev stC (b : Nat) (p : Pl) (q wr tk : List Int) (f g : Bool) : List Chunk := [cells b 60 (stCs p q.length wr.length tk.length f g), own p.Al p.cl 5 1 q.length (u8s q), own p.Aw p.cw 5 1 wr.length (u8s wr), own p.At p.ct 5 1 tk.length (u8s tk)]
theorem u8s_app (s : List Int) (x : Int) : u8s (s ++ [x]) = u8s s ++ [.int .u8 x] := by simp [u8s]
theorem wq_len (q xs : List Int) {k : Nat} (h : k < xs.length) : (q ++ xs.take (k + 1)).length = (q ++ xs.take k).length + 1 := by simp; omega
theorem wq_cells (q xs : List Int) {k : Nat} (h : k < xs.length) : u8s (q ++ xs.take (k + 1)) = u8s (q ++ xs.take k) ++ [.int .u8 (xs.getD k 0)] := by rw [take_snoc xs h, ← List.append_assoc, u8s_app]
theorem wq_end (q xs : List Int) {k : Nat} (h : k = min xs.length (64 - q.length)) : q ++ xs.take k = q ++ xs.take (64 - q.length) := by
  congr 1
  exact List.take_eq_take_iff.2 (by omega)
section
variable (b : Nat) (p : Pl) (q wr tk : List Int)
set_option maxHeartbeats 8000000 in
theorem sw_c (xs : List Int) (A : Option Addr) (c : Nat) (f g : Bool) (fr : List Chunk) (hrd : Rds fr A (u8s xs)) (hx : xs.length ≤ 9223372036854775807) (hq : q.length ≤ 64) (hw : wr.length ≤ 100000) :
    Does Try.prog 45 [pp b, .slice A xs.length c] (stC b p q wr tk f g ++ fr) (fun y : Pl × List Int => y.2.length ≤ wr.length + 64) (fun _ => .tuple #[.int .i64 (wrote q xs f g).1, .int .i64 (wrote q xs f g).2.1]) (fun y => stC b y.1 (wrote q xs f g).2.2 y.2 tk f g ++ fr) := by
  intro w hw'
  have hne : 0 < xs.length → A ≠ none := fun h => hrd.ne (hw'.sub (List.sublist_append_right _ _)) (by simpa [u8s] using h)
  refine f_enter Try.func45 rfl Try.ntmps45 rfl hw' ?_
  rcases Bool.eq_false_or_eq_true g with hg | hg
  rotate_left
  · subst hg
    repeat' (first
     | (refine s_is ?_; first
     | (refine s_isret ?_; first
     | (exact f_ret2 rfl rfl rfl (p, wr) (by dsimp only; omega) rfl (fun w h => h)))
     | (refine s_isw ?_; first
     | refine c_seq ?_
     | refine c_block ?_
     | refine c_region ?_
     | refine c_mixed mixed (by kernel_rfl) ?_
     | refine c_skip ?_
     | refine c_ret ?_
     | refine c_exit ?_
     | (refine s_iscond ?_; first
     | (refine c_true rfl (by first | with_reducible rfl | with_reducible assumption | ((with_reducible refine decide_eq_true ?_); first | with_reducible rfl | with_reducible assumption | omega)) ?_)
     | (refine c_false rfl (by first | with_reducible rfl | with_reducible assumption | ((with_reducible refine decide_eq_false ?_); first | with_reducible assumption | omega)) ?_)
     | (refine c_true rfl (by first | (simp only [Bool.not_eq_true', decide_eq_false_iff_not]; omega) | (with_reducible assumption) | (rw [decide_eq_false] <;> (first | omega | with_reducible rfl)) | (rw [decide_eq_true] <;> (first | omega | with_reducible rfl)) | (simp; done) | (simp; omega)) ?_)
     | (refine c_false rfl (by first | (simp only [Bool.not_eq_false', decide_eq_true_eq]; omega) | (with_reducible assumption) | (rw [decide_eq_false] <;> (first | omega | with_reducible rfl)) | (rw [decide_eq_true] <;> (first | omega | with_reducible rfl)) | (simp; done) | (simp; omega)) ?_)
     | refine c_cond rfl (fun hc => ?_) (fun hc => ?_)
     | refine c_condb rfl (fun hc => ?_) (fun hc => ?_)))
     | refine x_then ?_
     | refine x_then_ret ?_
     | refine x_then_exit ?_
     | refine x_block _ ?_
     | refine x_block_ret _ ?_
     | refine x_block_exit _ ?_
     | refine x_block_past (by decide) ?_
     | refine z_tailm ?_)
     | (refine z_isg1 ?_; first
     | refine z_skipu (by decide) rfl rfl ?_
     | (refine z_want1 rfl rfl (by first | with_reducible rfl | with_reducible assumption | ((with_reducible refine decide_eq_true ?_); first | with_reducible rfl | with_reducible assumption | omega)) ?_)
     | (refine z_skip1 (by decide) rfl rfl (by first | with_reducible rfl | with_reducible assumption | ((with_reducible refine decide_eq_false ?_); first | with_reducible assumption | omega)) ?_)
     | (refine z_want1 rfl rfl (by first | (simp only [Bool.not_eq_true', decide_eq_false_iff_not]; omega) | (with_reducible assumption) | (rw [decide_eq_false] <;> (first | omega | with_reducible rfl)) | (rw [decide_eq_true] <;> (first | omega | with_reducible rfl)) | (simp; done) | (simp; omega)) ?_)
     | (refine z_skip1 (by decide) rfl rfl (by first | (simp only [Bool.not_eq_false', decide_eq_true_eq]; omega) | (with_reducible assumption) | (rw [decide_eq_false] <;> (first | omega | with_reducible rfl)) | (rw [decide_eq_true] <;> (first | omega | with_reducible rfl)) | (simp; done) | (simp; omega)) ?_)
     | refine z_guard1 (by decide) rfl rfl (fun hc => ?_) (fun hc => ?_)
     | refine z_guardb (by decide) rfl rfl (fun hc => ?_) (fun hc => ?_))
     | (refine z_isnil ?_; first
     | refine z_list ?_
     | refine z_mixed ?_
     | refine z_mono0 ?_
     | refine z_mono1 (by decide) fun g => ?_
     | refine z_mono2 (by decide) (by decide) fun g g' => ?_
     | refine z_mixedx ?_
     | refine z_quiet ?_)
     | (refine z_isop ?_; first
     | (refine z_isbin ?_; first
     | (refine z_isb .add ?_; first
     | refine o_add rfl rfl (by omega) (by omega) (by decide) ?_
     | refine o_addw rfl rfl (by decide) ?_)
     | (refine z_isb .eql ?_; first
     | refine o_eq rfl rfl (by decide) ?_
     | refine o_beq tabOk rfl rfl rfl (by decide) ?_
     | refine o_peq tabOk rfl rfl (by decide) ?_)
     | (refine z_isb .lss ?_; first
     | refine o_lt rfl rfl (by decide) ?_)
     | (refine z_isb .gtr ?_; first
     | refine o_gt rfl rfl (by decide) ?_))
     | (refine z_isload ?_; first
     | (refine z_ld1 tabOk rfl rfl ?_; first
     | refine o_loadm tabOk rfl rfl rfl (by repeat' (first | exact List.mem_cons_self | apply List.mem_cons_of_mem)) (by first | exact u8s_at _ (by omega) | rfl) (by decide) ?_
     | refine o_loads tabOk (by first | assumption | exact Rds.cons _ (Rds.cons _ (Rds.cons _ (Rds.cons _ (by assumption)))) | exact Rds.cons _ (Rds.cons _ (Rds.cons _ (Rds.cons _ (Rds.cons _ (by assumption))))) | exact own_rds 0 rfl | exact own_rds 1 rfl | assumption) rfl rfl rfl (by first | exact u8s_at _ (by omega) | rfl) (by decide) ?_)
     | (refine z_ldw tabOk rfl rfl ?_; first
     | refine o_loadwm tabOk rfl rfl rfl (by repeat' (first | exact List.mem_cons_self | apply List.mem_cons_of_mem)) (by first | rfl) (by decide) ?_))
     | (refine z_isstore ?_; first
     | (refine z_stw rfl ?_; first
     | ((refine z_sti 0 rfl rfl ?_; refine o_storeb0 rfl tabOk rfl rfl rfl (by first | rfl) (by first | rfl) (by first | rfl) ?_))
     | ((refine z_sti 1 rfl rfl ?_; refine o_storeb1 rfl tabOk rfl rfl rfl (by first | rfl) (by first | rfl) (by first | rfl) ?_))
     | ((refine z_sti 2 rfl rfl ?_; refine o_storeb2 rfl tabOk rfl rfl rfl (by first | rfl) (by first | rfl) (by first | rfl) ?_))
     | ((refine z_sti 3 rfl rfl ?_; refine o_storeb3 rfl tabOk rfl rfl rfl (by first | rfl) (by first | rfl) (by first | rfl) ?_))
     | ((refine z_sti 4 rfl rfl ?_; refine o_storeb4 rfl tabOk rfl rfl rfl (by first | rfl) (by first | rfl) (by first | rfl) ?_))
     | ((refine z_sti 5 rfl rfl ?_; refine o_storeb5 rfl tabOk rfl rfl rfl (by first | rfl) (by first | rfl) (by first | rfl) ?_))
     | ((refine z_sti 6 rfl rfl ?_; refine o_storeb6 rfl tabOk rfl rfl rfl (by first | rfl) (by first | rfl) (by first | rfl) ?_)))
     | (refine z_st1 rfl rfl ?_; first
     | refine o_store rfl tabOk rfl rfl rfl rfl rfl (by first | exact u8s_at _ (by omega) | rfl) (by first | rfl) ?_
     | ((refine z_sti 1 rfl rfl ?_; refine o_store1 rfl tabOk rfl rfl rfl rfl rfl (by first | exact u8s_at _ (by omega) | rfl) (by first | rfl) ?_))
     | ((refine z_sti 2 rfl rfl ?_; refine o_store2 rfl tabOk rfl rfl rfl rfl rfl (by first | exact u8s_at _ (by omega) | rfl) (by first | rfl) ?_))
     | ((refine z_sti 3 rfl rfl ?_; refine o_store3 rfl tabOk rfl rfl rfl rfl rfl (by first | exact u8s_at _ (by omega) | rfl) (by first | rfl) ?_))
     | ((refine z_sti 4 rfl rfl ?_; refine o_store4 rfl tabOk rfl rfl rfl rfl rfl (by first | exact u8s_at _ (by omega) | rfl) (by first | rfl) ?_))
     | ((refine z_sti 5 rfl rfl ?_; refine o_store5 rfl tabOk rfl rfl rfl rfl rfl (by first | exact u8s_at _ (by omega) | rfl) (by first | rfl) ?_))
     | ((refine z_sti 6 rfl rfl ?_; refine o_store6 rfl tabOk rfl rfl rfl rfl rfl (by first | exact u8s_at _ (by omega) | rfl) (by first | rfl) ?_))))
     | (refine z_ismakes ?_; first
     | refine o_make1 rfl tabOk zeroOk rfl rfl rfl rfl rfl (by decide) fun g => ?_)
     | (refine z_ispick ?_; first
     | (refine o_pick1 rfl (by first | with_reducible rfl | with_reducible assumption | ((with_reducible refine decide_eq_true ?_); first | with_reducible rfl | with_reducible assumption | omega)) rfl (by decide) ?_)
     | (refine o_pick0 rfl (by first | with_reducible rfl | with_reducible assumption | ((with_reducible refine decide_eq_false ?_); first | with_reducible assumption | omega)) rfl (by decide) ?_)
     | (refine o_pick1 rfl (by first | (simp only [Bool.not_eq_true', decide_eq_false_iff_not]; omega) | (with_reducible assumption) | (rw [decide_eq_false] <;> (first | omega | with_reducible rfl)) | (rw [decide_eq_true] <;> (first | omega | with_reducible rfl)) | (simp; done) | (simp; omega)) rfl (by decide) ?_)
     | (refine o_pick0 rfl (by first | (simp only [Bool.not_eq_false', decide_eq_true_eq]; omega) | (with_reducible assumption) | (rw [decide_eq_false] <;> (first | omega | with_reducible rfl)) | (rw [decide_eq_true] <;> (first | omega | with_reducible rfl)) | (simp; done) | (simp; omega)) rfl (by decide) ?_))
     | (refine z_isix ?_; first
     | refine o_index0 tabOk rfl rfl rfl rfl (by omega) (by omega) (by decide) ?_
     | refine o_index1 tabOk rfl rfl rfl rfl (by omega) (by omega) (by decide) ?_
     | refine o_indexsk tabOk rfl rfl rfl rfl (by omega) (by omega) (by decide) ?_
     | refine o_indexs1 tabOk (by first | assumption) rfl rfl rfl rfl (by omega) (by omega) (by decide) ?_)
     | (refine z_isbi ?_; first
     | refine o_len tabOk rfl rfl (by decide) ?_
     | refine o_min rfl rfl (by decide) ?_
     | refine o_max rfl rfl (by decide) ?_
     | (refine o_append0 rfl tabOk zeroOk rfl rfl rfl rfl rfl rfl (by first | assumption | exact Rds.cons _ (Rds.cons _ (Rds.cons _ (Rds.cons _ (by assumption)))) | exact Rds.cons _ (Rds.cons _ (Rds.cons _ (Rds.cons _ (Rds.cons _ (by assumption))))) | exact own_rds 0 rfl | exact own_rds 1 rfl | assumption) (by first | rfl | (simp; done)) (by first | rfl | (simp; done)) (by omega) (by omega) (by decide) fun A' c' => ?_)
     | (refine o_append rfl tabOk zeroOk rfl rfl rfl rfl rfl rfl (by first | assumption | exact Rds.cons _ (Rds.cons _ (Rds.cons _ (Rds.cons _ (by assumption)))) | exact Rds.cons _ (Rds.cons _ (Rds.cons _ (Rds.cons _ (Rds.cons _ (by assumption))))) | exact own_rds 0 rfl | exact own_rds 1 rfl | assumption) (by first | rfl | (simp; done)) (by first | rfl | (simp; done)) (by omega) (by omega) (by decide) fun A' c' => ?_)
     | (refine z_front rfl 1 rfl ?_; refine o_append rfl tabOk zeroOk rfl rfl rfl rfl rfl rfl (by first | assumption | exact Rds.cons _ (Rds.cons _ (Rds.cons _ (Rds.cons _ (by assumption)))) | exact Rds.cons _ (Rds.cons _ (Rds.cons _ (Rds.cons _ (Rds.cons _ (by assumption))))) | exact own_rds 0 rfl | exact own_rds 1 rfl | assumption) (by first | rfl | (simp; done)) (by first | rfl | (simp; done)) (by omega) (by omega) (by decide) fun A' c' => ?_)
     | (refine z_front rfl 2 rfl ?_; refine o_append rfl tabOk zeroOk rfl rfl rfl rfl rfl rfl (by first | assumption | exact Rds.cons _ (Rds.cons _ (Rds.cons _ (Rds.cons _ (by assumption)))) | exact Rds.cons _ (Rds.cons _ (Rds.cons _ (Rds.cons _ (Rds.cons _ (by assumption))))) | exact own_rds 0 rfl | exact own_rds 1 rfl | assumption) (by first | rfl | (simp; done)) (by first | rfl | (simp; done)) (by omega) (by omega) (by decide) fun A' c' => ?_)
     | (refine z_front rfl 3 rfl ?_; refine o_append rfl tabOk zeroOk rfl rfl rfl rfl rfl rfl (by first | assumption | exact Rds.cons _ (Rds.cons _ (Rds.cons _ (Rds.cons _ (by assumption)))) | exact Rds.cons _ (Rds.cons _ (Rds.cons _ (Rds.cons _ (Rds.cons _ (by assumption))))) | exact own_rds 0 rfl | exact own_rds 1 rfl | assumption) (by first | rfl | (simp; done)) (by first | rfl | (simp; done)) (by omega) (by omega) (by decide) fun A' c' => ?_)
     | (refine z_front rfl 4 rfl ?_; refine o_append rfl tabOk zeroOk rfl rfl rfl rfl rfl rfl (by first | assumption | exact Rds.cons _ (Rds.cons _ (Rds.cons _ (Rds.cons _ (by assumption)))) | exact Rds.cons _ (Rds.cons _ (Rds.cons _ (Rds.cons _ (Rds.cons _ (by assumption))))) | exact own_rds 0 rfl | exact own_rds 1 rfl | assumption) (by first | rfl | (simp; done)) (by first | rfl | (simp; done)) (by omega) (by omega) (by decide) fun A' c' => ?_)
     | (refine z_front rfl 5 rfl ?_; refine o_append rfl tabOk zeroOk rfl rfl rfl rfl rfl rfl (by first | assumption | exact Rds.cons _ (Rds.cons _ (Rds.cons _ (Rds.cons _ (by assumption)))) | exact Rds.cons _ (Rds.cons _ (Rds.cons _ (Rds.cons _ (Rds.cons _ (by assumption))))) | exact own_rds 0 rfl | exact own_rds 1 rfl | assumption) (by first | rfl | (simp; done)) (by first | rfl | (simp; done)) (by omega) (by omega) (by decide) fun A' c' => ?_))
     | refine o_move rfl (by decide) ?_
     | refine o_assign rfl (by decide) ?_
     | refine o_nil rfl (by decide) ?_
     | refine o_extract rfl rfl (by decide) ?_
     | refine o_not rfl (by decide) ?_
     | refine o_field0 tabOk rfl rfl rfl rfl rfl (by decide) ?_
     | refine o_field tabOk rfl rfl rfl rfl rfl (by decide) ?_
     | refine o_conv tabOk rfl rfl rfl (by decide) ?_))
  rcases Bool.eq_false_or_eq_true f with hf | hf
  rotate_left
  · subst hf; subst hg
    repeat' (first
     | (refine s_is ?_; first
     | (refine s_isret ?_; first
     | (exact f_ret2 rfl rfl rfl (p, wr) (by dsimp only; omega) rfl (fun w h => h)))
     | (refine s_isw ?_; first
     | refine c_seq ?_
     | refine c_block ?_
     | refine c_region ?_
     | refine c_mixed mixed (by kernel_rfl) ?_
     | refine c_skip ?_
     | refine c_ret ?_
     | refine c_exit ?_
     | (refine s_iscond ?_; first
     | (refine c_true rfl (by first | with_reducible rfl | with_reducible assumption | ((with_reducible refine decide_eq_true ?_); first | with_reducible rfl | with_reducible assumption | omega)) ?_)
     | (refine c_false rfl (by first | with_reducible rfl | with_reducible assumption | ((with_reducible refine decide_eq_false ?_); first | with_reducible assumption | omega)) ?_)
     | (refine c_true rfl (by first | (simp only [Bool.not_eq_true', decide_eq_false_iff_not]; omega) | (with_reducible assumption) | (rw [decide_eq_false] <;> (first | omega | with_reducible rfl)) | (rw [decide_eq_true] <;> (first | omega | with_reducible rfl)) | (simp; done) | (simp; omega)) ?_)
     | (refine c_false rfl (by first | (simp only [Bool.not_eq_false', decide_eq_true_eq]; omega) | (with_reducible assumption) | (rw [decide_eq_false] <;> (first | omega | with_reducible rfl)) | (rw [decide_eq_true] <;> (first | omega | with_reducible rfl)) | (simp; done) | (simp; omega)) ?_)
     | refine c_cond rfl (fun hc => ?_) (fun hc => ?_)
     | refine c_condb rfl (fun hc => ?_) (fun hc => ?_)))
     | refine x_then ?_
     | refine x_then_ret ?_
     | refine x_then_exit ?_
     | refine x_block _ ?_
     | refine x_block_ret _ ?_
     | refine x_block_exit _ ?_
     | refine x_block_past (by decide) ?_
     | refine z_tailm ?_)
     | (refine z_isg1 ?_; first
     | refine z_skipu (by decide) rfl rfl ?_
     | (refine z_want1 rfl rfl (by first | with_reducible rfl | with_reducible assumption | ((with_reducible refine decide_eq_true ?_); first | with_reducible rfl | with_reducible assumption | omega)) ?_)
     | (refine z_skip1 (by decide) rfl rfl (by first | with_reducible rfl | with_reducible assumption | ((with_reducible refine decide_eq_false ?_); first | with_reducible assumption | omega)) ?_)
     | (refine z_want1 rfl rfl (by first | (simp only [Bool.not_eq_true', decide_eq_false_iff_not]; omega) | (with_reducible assumption) | (rw [decide_eq_false] <;> (first | omega | with_reducible rfl)) | (rw [decide_eq_true] <;> (first | omega | with_reducible rfl)) | (simp; done) | (simp; omega)) ?_)
     | (refine z_skip1 (by decide) rfl rfl (by first | (simp only [Bool.not_eq_false', decide_eq_true_eq]; omega) | (with_reducible assumption) | (rw [decide_eq_false] <;> (first | omega | with_reducible rfl)) | (rw [decide_eq_true] <;> (first | omega | with_reducible rfl)) | (simp; done) | (simp; omega)) ?_)
     | refine z_guard1 (by decide) rfl rfl (fun hc => ?_) (fun hc => ?_)
     | refine z_guardb (by decide) rfl rfl (fun hc => ?_) (fun hc => ?_))
     | (refine z_isnil ?_; first
     | refine z_list ?_
     | refine z_mixed ?_
     | refine z_mono0 ?_
     | refine z_mono1 (by decide) fun g => ?_
     | refine z_mono2 (by decide) (by decide) fun g g' => ?_
     | refine z_mixedx ?_
     | refine z_quiet ?_)
     | (refine z_isop ?_; first
     | (refine z_isbin ?_; first
     | (refine z_isb .add ?_; first
     | refine o_add rfl rfl (by omega) (by omega) (by decide) ?_
     | refine o_addw rfl rfl (by decide) ?_)
     | (refine z_isb .eql ?_; first
     | refine o_eq rfl rfl (by decide) ?_
     | refine o_beq tabOk rfl rfl rfl (by decide) ?_
     | refine o_peq tabOk rfl rfl (by decide) ?_)
     | (refine z_isb .lss ?_; first
     | refine o_lt rfl rfl (by decide) ?_)
     | (refine z_isb .gtr ?_; first
     | refine o_gt rfl rfl (by decide) ?_))
     | (refine z_isload ?_; first
     | (refine z_ld1 tabOk rfl rfl ?_; first
     | refine o_loadm tabOk rfl rfl rfl (by repeat' (first | exact List.mem_cons_self | apply List.mem_cons_of_mem)) (by first | exact u8s_at _ (by omega) | rfl) (by decide) ?_
     | refine o_loads tabOk (by first | assumption | exact Rds.cons _ (Rds.cons _ (Rds.cons _ (Rds.cons _ (by assumption)))) | exact Rds.cons _ (Rds.cons _ (Rds.cons _ (Rds.cons _ (Rds.cons _ (by assumption))))) | exact own_rds 0 rfl | exact own_rds 1 rfl | assumption) rfl rfl rfl (by first | exact u8s_at _ (by omega) | rfl) (by decide) ?_)
     | (refine z_ldw tabOk rfl rfl ?_; first
     | refine o_loadwm tabOk rfl rfl rfl (by repeat' (first | exact List.mem_cons_self | apply List.mem_cons_of_mem)) (by first | rfl) (by decide) ?_))
     | (refine z_isstore ?_; first
     | (refine z_stw rfl ?_; first
     | ((refine z_sti 0 rfl rfl ?_; refine o_storeb0 rfl tabOk rfl rfl rfl (by first | rfl) (by first | rfl) (by first | rfl) ?_))
     | ((refine z_sti 1 rfl rfl ?_; refine o_storeb1 rfl tabOk rfl rfl rfl (by first | rfl) (by first | rfl) (by first | rfl) ?_))
     | ((refine z_sti 2 rfl rfl ?_; refine o_storeb2 rfl tabOk rfl rfl rfl (by first | rfl) (by first | rfl) (by first | rfl) ?_))
     | ((refine z_sti 3 rfl rfl ?_; refine o_storeb3 rfl tabOk rfl rfl rfl (by first | rfl) (by first | rfl) (by first | rfl) ?_))
     | ((refine z_sti 4 rfl rfl ?_; refine o_storeb4 rfl tabOk rfl rfl rfl (by first | rfl) (by first | rfl) (by first | rfl) ?_))
     | ((refine z_sti 5 rfl rfl ?_; refine o_storeb5 rfl tabOk rfl rfl rfl (by first | rfl) (by first | rfl) (by first | rfl) ?_))
     | ((refine z_sti 6 rfl rfl ?_; refine o_storeb6 rfl tabOk rfl rfl rfl (by first | rfl) (by first | rfl) (by first | rfl) ?_)))
     | (refine z_st1 rfl rfl ?_; first
     | refine o_store rfl tabOk rfl rfl rfl rfl rfl (by first | exact u8s_at _ (by omega) | rfl) (by first | rfl) ?_
     | ((refine z_sti 1 rfl rfl ?_; refine o_store1 rfl tabOk rfl rfl rfl rfl rfl (by first | exact u8s_at _ (by omega) | rfl) (by first | rfl) ?_))
     | ((refine z_sti 2 rfl rfl ?_; refine o_store2 rfl tabOk rfl rfl rfl rfl rfl (by first | exact u8s_at _ (by omega) | rfl) (by first | rfl) ?_))
     | ((refine z_sti 3 rfl rfl ?_; refine o_store3 rfl tabOk rfl rfl rfl rfl rfl (by first | exact u8s_at _ (by omega) | rfl) (by first | rfl) ?_))
     | ((refine z_sti 4 rfl rfl ?_; refine o_store4 rfl tabOk rfl rfl rfl rfl rfl (by first | exact u8s_at _ (by omega) | rfl) (by first | rfl) ?_))
     | ((refine z_sti 5 rfl rfl ?_; refine o_store5 rfl tabOk rfl rfl rfl rfl rfl (by first | exact u8s_at _ (by omega) | rfl) (by first | rfl) ?_))
     | ((refine z_sti 6 rfl rfl ?_; refine o_store6 rfl tabOk rfl rfl rfl rfl rfl (by first | exact u8s_at _ (by omega) | rfl) (by first | rfl) ?_))))
     | (refine z_ismakes ?_; first
     | refine o_make1 rfl tabOk zeroOk rfl rfl rfl rfl rfl (by decide) fun g => ?_)
     | (refine z_ispick ?_; first
     | (refine o_pick1 rfl (by first | with_reducible rfl | with_reducible assumption | ((with_reducible refine decide_eq_true ?_); first | with_reducible rfl | with_reducible assumption | omega)) rfl (by decide) ?_)
     | (refine o_pick0 rfl (by first | with_reducible rfl | with_reducible assumption | ((with_reducible refine decide_eq_false ?_); first | with_reducible assumption | omega)) rfl (by decide) ?_)
     | (refine o_pick1 rfl (by first | (simp only [Bool.not_eq_true', decide_eq_false_iff_not]; omega) | (with_reducible assumption) | (rw [decide_eq_false] <;> (first | omega | with_reducible rfl)) | (rw [decide_eq_true] <;> (first | omega | with_reducible rfl)) | (simp; done) | (simp; omega)) rfl (by decide) ?_)
     | (refine o_pick0 rfl (by first | (simp only [Bool.not_eq_false', decide_eq_true_eq]; omega) | (with_reducible assumption) | (rw [decide_eq_false] <;> (first | omega | with_reducible rfl)) | (rw [decide_eq_true] <;> (first | omega | with_reducible rfl)) | (simp; done) | (simp; omega)) rfl (by decide) ?_))
     | (refine z_isix ?_; first
     | refine o_index0 tabOk rfl rfl rfl rfl (by omega) (by omega) (by decide) ?_
     | refine o_index1 tabOk rfl rfl rfl rfl (by omega) (by omega) (by decide) ?_
     | refine o_indexsk tabOk rfl rfl rfl rfl (by omega) (by omega) (by decide) ?_
     | refine o_indexs1 tabOk (by first | assumption) rfl rfl rfl rfl (by omega) (by omega) (by decide) ?_)
     | (refine z_isbi ?_; first
     | refine o_len tabOk rfl rfl (by decide) ?_
     | refine o_min rfl rfl (by decide) ?_
     | refine o_max rfl rfl (by decide) ?_
     | (refine o_append0 rfl tabOk zeroOk rfl rfl rfl rfl rfl rfl (by first | assumption | exact Rds.cons _ (Rds.cons _ (Rds.cons _ (Rds.cons _ (by assumption)))) | exact Rds.cons _ (Rds.cons _ (Rds.cons _ (Rds.cons _ (Rds.cons _ (by assumption))))) | exact own_rds 0 rfl | exact own_rds 1 rfl | assumption) (by first | rfl | (simp; done)) (by first | rfl | (simp; done)) (by omega) (by omega) (by decide) fun A' c' => ?_)
     | (refine o_append rfl tabOk zeroOk rfl rfl rfl rfl rfl rfl (by first | assumption | exact Rds.cons _ (Rds.cons _ (Rds.cons _ (Rds.cons _ (by assumption)))) | exact Rds.cons _ (Rds.cons _ (Rds.cons _ (Rds.cons _ (Rds.cons _ (by assumption))))) | exact own_rds 0 rfl | exact own_rds 1 rfl | assumption) (by first | rfl | (simp; done)) (by first | rfl | (simp; done)) (by omega) (by omega) (by decide) fun A' c' => ?_)
     | (refine z_front rfl 1 rfl ?_; refine o_append rfl tabOk zeroOk rfl rfl rfl rfl rfl rfl (by first | assumption | exact Rds.cons _ (Rds.cons _ (Rds.cons _ (Rds.cons _ (by assumption)))) | exact Rds.cons _ (Rds.cons _ (Rds.cons _ (Rds.cons _ (Rds.cons _ (by assumption))))) | exact own_rds 0 rfl | exact own_rds 1 rfl | assumption) (by first | rfl | (simp; done)) (by first | rfl | (simp; done)) (by omega) (by omega) (by decide) fun A' c' => ?_)
     | (refine z_front rfl 2 rfl ?_; refine o_append rfl tabOk zeroOk rfl rfl rfl rfl rfl rfl (by first | assumption | exact Rds.cons _ (Rds.cons _ (Rds.cons _ (Rds.cons _ (by assumption)))) | exact Rds.cons _ (Rds.cons _ (Rds.cons _ (Rds.cons _ (Rds.cons _ (by assumption))))) | exact own_rds 0 rfl | exact own_rds 1 rfl | assumption) (by first | rfl | (simp; done)) (by first | rfl | (simp; done)) (by omega) (by omega) (by decide) fun A' c' => ?_)
     | (refine z_front rfl 3 rfl ?_; refine o_append rfl tabOk zeroOk rfl rfl rfl rfl rfl rfl (by first | assumption | exact Rds.cons _ (Rds.cons _ (Rds.cons _ (Rds.cons _ (by assumption)))) | exact Rds.cons _ (Rds.cons _ (Rds.cons _ (Rds.cons _ (Rds.cons _ (by assumption))))) | exact own_rds 0 rfl | exact own_rds 1 rfl | assumption) (by first | rfl | (simp; done)) (by first | rfl | (simp; done)) (by omega) (by omega) (by decide) fun A' c' => ?_)
     | (refine z_front rfl 4 rfl ?_; refine o_append rfl tabOk zeroOk rfl rfl rfl rfl rfl rfl (by first | assumption | exact Rds.cons _ (Rds.cons _ (Rds.cons _ (Rds.cons _ (by assumption)))) | exact Rds.cons _ (Rds.cons _ (Rds.cons _ (Rds.cons _ (Rds.cons _ (by assumption))))) | exact own_rds 0 rfl | exact own_rds 1 rfl | assumption) (by first | rfl | (simp; done)) (by first | rfl | (simp; done)) (by omega) (by omega) (by decide) fun A' c' => ?_)
     | (refine z_front rfl 5 rfl ?_; refine o_append rfl tabOk zeroOk rfl rfl rfl rfl rfl rfl (by first | assumption | exact Rds.cons _ (Rds.cons _ (Rds.cons _ (Rds.cons _ (by assumption)))) | exact Rds.cons _ (Rds.cons _ (Rds.cons _ (Rds.cons _ (Rds.cons _ (by assumption))))) | exact own_rds 0 rfl | exact own_rds 1 rfl | assumption) (by first | rfl | (simp; done)) (by first | rfl | (simp; done)) (by omega) (by omega) (by decide) fun A' c' => ?_))
     | refine o_move rfl (by decide) ?_
     | refine o_assign rfl (by decide) ?_
     | refine o_nil rfl (by decide) ?_
     | refine o_extract rfl rfl (by decide) ?_
     | refine o_not rfl (by decide) ?_
     | refine o_field0 tabOk rfl rfl rfl rfl rfl (by decide) ?_
     | refine o_field tabOk rfl rfl rfl rfl rfl (by decide) ?_
     | refine o_conv tabOk rfl rfl rfl (by decide) ?_))
  subst hf; subst hg
  by_cases hful : 0 < xs.length ∧ q.length = 64
  · have e : wrote q xs true true = (0, 7, q) := by simp [wrote, hful]
    rw [e]
    repeat' (first
     | (refine s_is ?_; first
     | (refine s_isret ?_; first
     | (exact f_ret2 rfl rfl rfl (p, wr) (by dsimp only; omega) rfl (fun w h => h)))
     | (refine s_isw ?_; first
     | refine c_seq ?_
     | refine c_block ?_
     | refine c_region ?_
     | refine c_mixed mixed (by kernel_rfl) ?_
     | refine c_skip ?_
     | refine c_ret ?_
     | refine c_exit ?_
     | (refine s_iscond ?_; first
     | (refine c_true rfl (by first | with_reducible rfl | with_reducible assumption | ((with_reducible refine decide_eq_true ?_); first | with_reducible rfl | with_reducible assumption | omega)) ?_)
     | (refine c_false rfl (by first | with_reducible rfl | with_reducible assumption | ((with_reducible refine decide_eq_false ?_); first | with_reducible assumption | omega)) ?_)
     | (refine c_true rfl (by first | (simp only [Bool.not_eq_true', decide_eq_false_iff_not]; omega) | (with_reducible assumption) | (rw [decide_eq_false] <;> (first | omega | with_reducible rfl)) | (rw [decide_eq_true] <;> (first | omega | with_reducible rfl)) | (simp; done) | (simp; omega)) ?_)
     | (refine c_false rfl (by first | (simp only [Bool.not_eq_false', decide_eq_true_eq]; omega) | (with_reducible assumption) | (rw [decide_eq_false] <;> (first | omega | with_reducible rfl)) | (rw [decide_eq_true] <;> (first | omega | with_reducible rfl)) | (simp; done) | (simp; omega)) ?_)
     | refine c_cond rfl (fun hc => ?_) (fun hc => ?_)
     | refine c_condb rfl (fun hc => ?_) (fun hc => ?_)))
     | refine x_then ?_
     | refine x_then_ret ?_
     | refine x_then_exit ?_
     | refine x_block _ ?_
     | refine x_block_ret _ ?_
     | refine x_block_exit _ ?_
     | refine x_block_past (by decide) ?_
     | refine z_tailm ?_)
     | (refine z_isg1 ?_; first
     | refine z_skipu (by decide) rfl rfl ?_
     | (refine z_want1 rfl rfl (by first | with_reducible rfl | with_reducible assumption | ((with_reducible refine decide_eq_true ?_); first | with_reducible rfl | with_reducible assumption | omega)) ?_)
     | (refine z_skip1 (by decide) rfl rfl (by first | with_reducible rfl | with_reducible assumption | ((with_reducible refine decide_eq_false ?_); first | with_reducible assumption | omega)) ?_)
     | (refine z_want1 rfl rfl (by first | (simp only [Bool.not_eq_true', decide_eq_false_iff_not]; omega) | (with_reducible assumption) | (rw [decide_eq_false] <;> (first | omega | with_reducible rfl)) | (rw [decide_eq_true] <;> (first | omega | with_reducible rfl)) | (simp; done) | (simp; omega)) ?_)
     | (refine z_skip1 (by decide) rfl rfl (by first | (simp only [Bool.not_eq_false', decide_eq_true_eq]; omega) | (with_reducible assumption) | (rw [decide_eq_false] <;> (first | omega | with_reducible rfl)) | (rw [decide_eq_true] <;> (first | omega | with_reducible rfl)) | (simp; done) | (simp; omega)) ?_)
     | refine z_guard1 (by decide) rfl rfl (fun hc => ?_) (fun hc => ?_)
     | refine z_guardb (by decide) rfl rfl (fun hc => ?_) (fun hc => ?_))
     | (refine z_isnil ?_; first
     | refine z_list ?_
     | refine z_mixed ?_
     | refine z_mono0 ?_
     | refine z_mono1 (by decide) fun g => ?_
     | refine z_mono2 (by decide) (by decide) fun g g' => ?_
     | refine z_mixedx ?_
     | refine z_quiet ?_)
     | (refine z_isop ?_; first
     | (refine z_isbin ?_; first
     | (refine z_isb .add ?_; first
     | refine o_add rfl rfl (by omega) (by omega) (by decide) ?_
     | refine o_addw rfl rfl (by decide) ?_)
     | (refine z_isb .eql ?_; first
     | refine o_eq rfl rfl (by decide) ?_
     | refine o_beq tabOk rfl rfl rfl (by decide) ?_
     | refine o_peq tabOk rfl rfl (by decide) ?_)
     | (refine z_isb .lss ?_; first
     | refine o_lt rfl rfl (by decide) ?_)
     | (refine z_isb .gtr ?_; first
     | refine o_gt rfl rfl (by decide) ?_))
     | (refine z_isload ?_; first
     | (refine z_ld1 tabOk rfl rfl ?_; first
     | refine o_loadm tabOk rfl rfl rfl (by repeat' (first | exact List.mem_cons_self | apply List.mem_cons_of_mem)) (by first | exact u8s_at _ (by omega) | rfl) (by decide) ?_
     | refine o_loads tabOk (by first | assumption | exact Rds.cons _ (Rds.cons _ (Rds.cons _ (Rds.cons _ (by assumption)))) | exact Rds.cons _ (Rds.cons _ (Rds.cons _ (Rds.cons _ (Rds.cons _ (by assumption))))) | exact own_rds 0 rfl | exact own_rds 1 rfl | assumption) rfl rfl rfl (by first | exact u8s_at _ (by omega) | rfl) (by decide) ?_)
     | (refine z_ldw tabOk rfl rfl ?_; first
     | refine o_loadwm tabOk rfl rfl rfl (by repeat' (first | exact List.mem_cons_self | apply List.mem_cons_of_mem)) (by first | rfl) (by decide) ?_))
     | (refine z_isstore ?_; first
     | (refine z_stw rfl ?_; first
     | ((refine z_sti 0 rfl rfl ?_; refine o_storeb0 rfl tabOk rfl rfl rfl (by first | rfl) (by first | rfl) (by first | rfl) ?_))
     | ((refine z_sti 1 rfl rfl ?_; refine o_storeb1 rfl tabOk rfl rfl rfl (by first | rfl) (by first | rfl) (by first | rfl) ?_))
     | ((refine z_sti 2 rfl rfl ?_; refine o_storeb2 rfl tabOk rfl rfl rfl (by first | rfl) (by first | rfl) (by first | rfl) ?_))
     | ((refine z_sti 3 rfl rfl ?_; refine o_storeb3 rfl tabOk rfl rfl rfl (by first | rfl) (by first | rfl) (by first | rfl) ?_))
     | ((refine z_sti 4 rfl rfl ?_; refine o_storeb4 rfl tabOk rfl rfl rfl (by first | rfl) (by first | rfl) (by first | rfl) ?_))
     | ((refine z_sti 5 rfl rfl ?_; refine o_storeb5 rfl tabOk rfl rfl rfl (by first | rfl) (by first | rfl) (by first | rfl) ?_))
     | ((refine z_sti 6 rfl rfl ?_; refine o_storeb6 rfl tabOk rfl rfl rfl (by first | rfl) (by first | rfl) (by first | rfl) ?_)))
     | (refine z_st1 rfl rfl ?_; first
     | refine o_store rfl tabOk rfl rfl rfl rfl rfl (by first | exact u8s_at _ (by omega) | rfl) (by first | rfl) ?_
     | ((refine z_sti 1 rfl rfl ?_; refine o_store1 rfl tabOk rfl rfl rfl rfl rfl (by first | exact u8s_at _ (by omega) | rfl) (by first | rfl) ?_))
     | ((refine z_sti 2 rfl rfl ?_; refine o_store2 rfl tabOk rfl rfl rfl rfl rfl (by first | exact u8s_at _ (by omega) | rfl) (by first | rfl) ?_))
     | ((refine z_sti 3 rfl rfl ?_; refine o_store3 rfl tabOk rfl rfl rfl rfl rfl (by first | exact u8s_at _ (by omega) | rfl) (by first | rfl) ?_))
     | ((refine z_sti 4 rfl rfl ?_; refine o_store4 rfl tabOk rfl rfl rfl rfl rfl (by first | exact u8s_at _ (by omega) | rfl) (by first | rfl) ?_))
     | ((refine z_sti 5 rfl rfl ?_; refine o_store5 rfl tabOk rfl rfl rfl rfl rfl (by first | exact u8s_at _ (by omega) | rfl) (by first | rfl) ?_))
     | ((refine z_sti 6 rfl rfl ?_; refine o_store6 rfl tabOk rfl rfl rfl rfl rfl (by first | exact u8s_at _ (by omega) | rfl) (by first | rfl) ?_))))
     | (refine z_ismakes ?_; first
     | refine o_make1 rfl tabOk zeroOk rfl rfl rfl rfl rfl (by decide) fun g => ?_)
     | (refine z_ispick ?_; first
     | (refine o_pick1 rfl (by first | with_reducible rfl | with_reducible assumption | ((with_reducible refine decide_eq_true ?_); first | with_reducible rfl | with_reducible assumption | omega)) rfl (by decide) ?_)
     | (refine o_pick0 rfl (by first | with_reducible rfl | with_reducible assumption | ((with_reducible refine decide_eq_false ?_); first | with_reducible assumption | omega)) rfl (by decide) ?_)
     | (refine o_pick1 rfl (by first | (simp only [Bool.not_eq_true', decide_eq_false_iff_not]; omega) | (with_reducible assumption) | (rw [decide_eq_false] <;> (first | omega | with_reducible rfl)) | (rw [decide_eq_true] <;> (first | omega | with_reducible rfl)) | (simp; done) | (simp; omega)) rfl (by decide) ?_)
     | (refine o_pick0 rfl (by first | (simp only [Bool.not_eq_false', decide_eq_true_eq]; omega) | (with_reducible assumption) | (rw [decide_eq_false] <;> (first | omega | with_reducible rfl)) | (rw [decide_eq_true] <;> (first | omega | with_reducible rfl)) | (simp; done) | (simp; omega)) rfl (by decide) ?_))
     | (refine z_isix ?_; first
     | refine o_index0 tabOk rfl rfl rfl rfl (by omega) (by omega) (by decide) ?_
     | refine o_index1 tabOk rfl rfl rfl rfl (by omega) (by omega) (by decide) ?_
     | refine o_indexsk tabOk rfl rfl rfl rfl (by omega) (by omega) (by decide) ?_
     | refine o_indexs1 tabOk (by first | assumption) rfl rfl rfl rfl (by omega) (by omega) (by decide) ?_)
     | (refine z_isbi ?_; first
     | refine o_len tabOk rfl rfl (by decide) ?_
     | refine o_min rfl rfl (by decide) ?_
     | refine o_max rfl rfl (by decide) ?_
     | (refine o_append0 rfl tabOk zeroOk rfl rfl rfl rfl rfl rfl (by first | assumption | exact Rds.cons _ (Rds.cons _ (Rds.cons _ (Rds.cons _ (by assumption)))) | exact Rds.cons _ (Rds.cons _ (Rds.cons _ (Rds.cons _ (Rds.cons _ (by assumption))))) | exact own_rds 0 rfl | exact own_rds 1 rfl | assumption) (by first | rfl | (simp; done)) (by first | rfl | (simp; done)) (by omega) (by omega) (by decide) fun A' c' => ?_)
     | (refine o_append rfl tabOk zeroOk rfl rfl rfl rfl rfl rfl (by first | assumption | exact Rds.cons _ (Rds.cons _ (Rds.cons _ (Rds.cons _ (by assumption)))) | exact Rds.cons _ (Rds.cons _ (Rds.cons _ (Rds.cons _ (Rds.cons _ (by assumption))))) | exact own_rds 0 rfl | exact own_rds 1 rfl | assumption) (by first | rfl | (simp; done)) (by first | rfl | (simp; done)) (by omega) (by omega) (by decide) fun A' c' => ?_)
     | (refine z_front rfl 1 rfl ?_; refine o_append rfl tabOk zeroOk rfl rfl rfl rfl rfl rfl (by first | assumption | exact Rds.cons _ (Rds.cons _ (Rds.cons _ (Rds.cons _ (by assumption)))) | exact Rds.cons _ (Rds.cons _ (Rds.cons _ (Rds.cons _ (Rds.cons _ (by assumption))))) | exact own_rds 0 rfl | exact own_rds 1 rfl | assumption) (by first | rfl | (simp; done)) (by first | rfl | (simp; done)) (by omega) (by omega) (by decide) fun A' c' => ?_)
     | (refine z_front rfl 2 rfl ?_; refine o_append rfl tabOk zeroOk rfl rfl rfl rfl rfl rfl (by first | assumption | exact Rds.cons _ (Rds.cons _ (Rds.cons _ (Rds.cons _ (by assumption)))) | exact Rds.cons _ (Rds.cons _ (Rds.cons _ (Rds.cons _ (Rds.cons _ (by assumption))))) | exact own_rds 0 rfl | exact own_rds 1 rfl | assumption) (by first | rfl | (simp; done)) (by first | rfl | (simp; done)) (by omega) (by omega) (by decide) fun A' c' => ?_)
     | (refine z_front rfl 3 rfl ?_; refine o_append rfl tabOk zeroOk rfl rfl rfl rfl rfl rfl (by first | assumption | exact Rds.cons _ (Rds.cons _ (Rds.cons _ (Rds.cons _ (by assumption)))) | exact Rds.cons _ (Rds.cons _ (Rds.cons _ (Rds.cons _ (Rds.cons _ (by assumption))))) | exact own_rds 0 rfl | exact own_rds 1 rfl | assumption) (by first | rfl | (simp; done)) (by first | rfl | (simp; done)) (by omega) (by omega) (by decide) fun A' c' => ?_)
     | (refine z_front rfl 4 rfl ?_; refine o_append rfl tabOk zeroOk rfl rfl rfl rfl rfl rfl (by first | assumption | exact Rds.cons _ (Rds.cons _ (Rds.cons _ (Rds.cons _ (by assumption)))) | exact Rds.cons _ (Rds.cons _ (Rds.cons _ (Rds.cons _ (Rds.cons _ (by assumption))))) | exact own_rds 0 rfl | exact own_rds 1 rfl | assumption) (by first | rfl | (simp; done)) (by first | rfl | (simp; done)) (by omega) (by omega) (by decide) fun A' c' => ?_)
     | (refine z_front rfl 5 rfl ?_; refine o_append rfl tabOk zeroOk rfl rfl rfl rfl rfl rfl (by first | assumption | exact Rds.cons _ (Rds.cons _ (Rds.cons _ (Rds.cons _ (by assumption)))) | exact Rds.cons _ (Rds.cons _ (Rds.cons _ (Rds.cons _ (Rds.cons _ (by assumption))))) | exact own_rds 0 rfl | exact own_rds 1 rfl | assumption) (by first | rfl | (simp; done)) (by first | rfl | (simp; done)) (by omega) (by omega) (by decide) fun A' c' => ?_))
     | refine o_move rfl (by decide) ?_
     | refine o_assign rfl (by decide) ?_
     | refine o_nil rfl (by decide) ?_
     | refine o_extract rfl rfl (by decide) ?_
     | refine o_not rfl (by decide) ?_
     | refine o_field0 tabOk rfl rfl rfl rfl rfl (by decide) ?_
     | refine o_field tabOk rfl rfl rfl rfl rfl (by decide) ?_
     | refine o_conv tabOk rfl rfl rfl (by decide) ?_))
  · obtain ⟨m, hm⟩ : ∃ m, m = min xs.length (64 - q.length) := ⟨_, rfl⟩
    have e : wrote q xs true true = ((m : Int), 0, q ++ xs.take (64 - q.length)) := by subst hm; simp [wrote, hful]
    rw [e]
    have hm64 : m ≤ 64 := by omega
    have hq9 : q.length ≤ 64 := hq
    repeat' (first
     | ((refine z_front rfl 2 rfl ?_; refine o_append rfl tabOk zeroOk rfl rfl rfl rfl rfl rfl (by exact own_rds 1 rfl) (by first | rfl | simp) (by first | rfl | simp) (by omega) (by omega) (by decide) fun Al cl => ?_))
     | ((refine z_front rfl 4 rfl ?_; refine o_append rfl tabOk zeroOk rfl rfl rfl rfl rfl rfl (by exact own_rds 1 rfl) (by first | rfl | simp) (by first | rfl | simp) (by omega) (by omega) (by decide) fun Aw cw => ?_))
     | (refine s_is ?_; first
     | refine c_mixedx (id := 9) mixed (by kernel_rfl) ?_
     | refine c_mixedx (id := 10) mixed (by kernel_rfl) ?_
     | (refine s_isagain ?_; first
     | ((refine c_again ({ p' with Al := Al, cl := cl, Aw := Aw, cw := cw }, wr' ++ [xs.getD k 0], k + 1) ⟨by dsimp only; omega, by simp; omega⟩ (by dsimp only; omega) ⟨rfl, rfl, rfl, trivial⟩ (fun w h => ?_); have e1 := wq_len q xs (k := k) (by omega); have e2 := wq_cells q xs (k := k) (by omega); have e3 : (wr' ++ [xs.getD k 0]).length = wr'.length + 1 := (by simp); dsimp only; unfold stC; rw [e1, e2, u8s_app, e3]; exact ((h.sel 6 [4, 2, 0, 5, 1, 3] (by decide)).mask [true, true, true, true, false, false]))))
     | (refine s_isret ?_; first
     | ((obtain rfl : k = m := (by omega); exact f_ret2 rfl rfl rfl (p', wr') (by dsimp only; omega) rfl (fun w h => by rw [← wq_end q xs (k := k) (by omega)]; exact h))))
     | (refine s_isw ?_; first
     | (refine s_isloop ?_; first
     | ((refine c_loop (X := Pl × List Int × Nat) (fun y => y.2.2 ≤ m ∧ y.2.1.length = wr.length + y.2.2) (fun y => [(0, pp b), (1, .slice A xs.length c), (6, .int .i64 y.2.2)]) (fun y => stC b y.1 (q ++ xs.take y.2.2) y.2.1 tk true true ++ fr) (fun y => m - y.2.2) (p, wr, 0) ⟨Nat.zero_le _, rfl⟩ ⟨rfl, rfl, rfl, trivial⟩ (fun w h => by dsimp only; rw [List.take_zero, List.append_nil]; exact h) (fun y hy => ?_); obtain ⟨p', wr', k⟩ := y; dsimp only at hy ⊢; obtain ⟨hk, hwr⟩ := hy; have hql : (q ++ xs.take k).length = q.length + k := (by rw [List.length_append, List.length_take]; omega))))
     | refine c_seq ?_
     | refine c_block ?_
     | refine c_region ?_
     | refine c_mixed mixed (by kernel_rfl) ?_
     | refine c_skip ?_
     | refine c_ret ?_
     | refine c_exit ?_
     | (refine s_iscond ?_; first
     | (refine c_true rfl (by first | with_reducible rfl | with_reducible assumption | ((with_reducible refine decide_eq_true ?_); first | with_reducible rfl | with_reducible assumption | omega)) ?_)
     | (refine c_false rfl (by first | with_reducible rfl | with_reducible assumption | ((with_reducible refine decide_eq_false ?_); first | with_reducible assumption | omega)) ?_)
     | (refine c_true rfl (by first | (simp only [Bool.not_eq_true', decide_eq_false_iff_not]; omega) | (with_reducible assumption) | (rw [decide_eq_false] <;> (first | omega | with_reducible rfl)) | (rw [decide_eq_true] <;> (first | omega | with_reducible rfl)) | (simp; done) | (simp; omega)) ?_)
     | (refine c_false rfl (by first | (simp only [Bool.not_eq_false', decide_eq_true_eq]; omega) | (with_reducible assumption) | (rw [decide_eq_false] <;> (first | omega | with_reducible rfl)) | (rw [decide_eq_true] <;> (first | omega | with_reducible rfl)) | (simp; done) | (simp; omega)) ?_)
     | refine c_cond rfl (fun hc => ?_) (fun hc => ?_)
     | refine c_condb rfl (fun hc => ?_) (fun hc => ?_)))
     | refine x_then ?_
     | refine x_then_ret ?_
     | refine x_then_exit ?_
     | refine x_block _ ?_
     | refine x_block_ret _ ?_
     | refine x_block_exit _ ?_
     | refine x_block_past (by decide) ?_
     | refine z_tailm ?_)
     | (refine z_isg1 ?_; first
     | refine z_skipu (by decide) rfl rfl ?_
     | (refine z_want1 rfl rfl (by first | with_reducible rfl | with_reducible assumption | ((with_reducible refine decide_eq_true ?_); first | with_reducible rfl | with_reducible assumption | omega)) ?_)
     | (refine z_skip1 (by decide) rfl rfl (by first | with_reducible rfl | with_reducible assumption | ((with_reducible refine decide_eq_false ?_); first | with_reducible assumption | omega)) ?_)
     | (refine z_want1 rfl rfl (by first | (simp only [Bool.not_eq_true', decide_eq_false_iff_not]; omega) | (with_reducible assumption) | (rw [decide_eq_false] <;> (first | omega | with_reducible rfl)) | (rw [decide_eq_true] <;> (first | omega | with_reducible rfl)) | (simp; done) | (simp; omega)) ?_)
     | (refine z_skip1 (by decide) rfl rfl (by first | (simp only [Bool.not_eq_false', decide_eq_true_eq]; omega) | (with_reducible assumption) | (rw [decide_eq_false] <;> (first | omega | with_reducible rfl)) | (rw [decide_eq_true] <;> (first | omega | with_reducible rfl)) | (simp; done) | (simp; omega)) ?_)
     | refine z_guard1 (by decide) rfl rfl (fun hc => ?_) (fun hc => ?_)
     | refine z_guardb (by decide) rfl rfl (fun hc => ?_) (fun hc => ?_))
     | (refine z_isnil ?_; first
     | refine z_mixedx ?_
     | refine z_list ?_
     | refine z_mixed ?_
     | refine z_mono0 ?_
     | refine z_mono1 (by decide) fun g => ?_
     | refine z_mono2 (by decide) (by decide) fun g g' => ?_
     | refine z_mixedx ?_
     | refine z_quiet ?_)
     | (refine z_isop ?_; first
     | (refine z_isbin ?_; first
     | (refine z_isb .add ?_; first
     | refine o_add rfl rfl (by omega) (by omega) (by decide) ?_
     | refine o_addw rfl rfl (by decide) ?_)
     | (refine z_isb .eql ?_; first
     | refine o_eq rfl rfl (by decide) ?_
     | refine o_beq tabOk rfl rfl rfl (by decide) ?_
     | refine o_peq tabOk rfl rfl (by decide) ?_)
     | (refine z_isb .lss ?_; first
     | refine o_lt rfl rfl (by decide) ?_)
     | (refine z_isb .gtr ?_; first
     | refine o_gt rfl rfl (by decide) ?_))
     | (refine z_isload ?_; first
     | (refine z_ld1 tabOk rfl rfl ?_; first
     | refine o_loadm tabOk rfl rfl rfl (by repeat' (first | exact List.mem_cons_self | apply List.mem_cons_of_mem)) (by first | exact u8s_at _ (by omega) | rfl) (by decide) ?_
     | refine o_loads tabOk (by first | assumption | exact Rds.cons _ (Rds.cons _ (Rds.cons _ (Rds.cons _ (by assumption)))) | exact Rds.cons _ (Rds.cons _ (Rds.cons _ (Rds.cons _ (Rds.cons _ (by assumption))))) | exact own_rds 0 rfl | exact own_rds 1 rfl | assumption) rfl rfl rfl (by first | exact u8s_at _ (by omega) | rfl) (by decide) ?_)
     | (refine z_ldw tabOk rfl rfl ?_; first
     | refine o_loadwm tabOk rfl rfl rfl (by repeat' (first | exact List.mem_cons_self | apply List.mem_cons_of_mem)) (by first | rfl) (by decide) ?_))
     | (refine z_isstore ?_; first
     | (refine z_stw rfl ?_; first
     | ((refine z_sti 0 rfl rfl ?_; refine o_storeb0 rfl tabOk rfl rfl rfl (by first | rfl) (by first | rfl) (by first | rfl) ?_))
     | ((refine z_sti 1 rfl rfl ?_; refine o_storeb1 rfl tabOk rfl rfl rfl (by first | rfl) (by first | rfl) (by first | rfl) ?_))
     | ((refine z_sti 2 rfl rfl ?_; refine o_storeb2 rfl tabOk rfl rfl rfl (by first | rfl) (by first | rfl) (by first | rfl) ?_))
     | ((refine z_sti 3 rfl rfl ?_; refine o_storeb3 rfl tabOk rfl rfl rfl (by first | rfl) (by first | rfl) (by first | rfl) ?_))
     | ((refine z_sti 4 rfl rfl ?_; refine o_storeb4 rfl tabOk rfl rfl rfl (by first | rfl) (by first | rfl) (by first | rfl) ?_))
     | ((refine z_sti 5 rfl rfl ?_; refine o_storeb5 rfl tabOk rfl rfl rfl (by first | rfl) (by first | rfl) (by first | rfl) ?_))
     | ((refine z_sti 6 rfl rfl ?_; refine o_storeb6 rfl tabOk rfl rfl rfl (by first | rfl) (by first | rfl) (by first | rfl) ?_)))
     | (refine z_st1 rfl rfl ?_; first
     | refine o_store rfl tabOk rfl rfl rfl rfl rfl (by first | exact u8s_at _ (by omega) | rfl) (by first | rfl) ?_
     | ((refine z_sti 1 rfl rfl ?_; refine o_store1 rfl tabOk rfl rfl rfl rfl rfl (by first | exact u8s_at _ (by omega) | rfl) (by first | rfl) ?_))
     | ((refine z_sti 2 rfl rfl ?_; refine o_store2 rfl tabOk rfl rfl rfl rfl rfl (by first | exact u8s_at _ (by omega) | rfl) (by first | rfl) ?_))
     | ((refine z_sti 3 rfl rfl ?_; refine o_store3 rfl tabOk rfl rfl rfl rfl rfl (by first | exact u8s_at _ (by omega) | rfl) (by first | rfl) ?_))
     | ((refine z_sti 4 rfl rfl ?_; refine o_store4 rfl tabOk rfl rfl rfl rfl rfl (by first | exact u8s_at _ (by omega) | rfl) (by first | rfl) ?_))
     | ((refine z_sti 5 rfl rfl ?_; refine o_store5 rfl tabOk rfl rfl rfl rfl rfl (by first | exact u8s_at _ (by omega) | rfl) (by first | rfl) ?_))
     | ((refine z_sti 6 rfl rfl ?_; refine o_store6 rfl tabOk rfl rfl rfl rfl rfl (by first | exact u8s_at _ (by omega) | rfl) (by first | rfl) ?_))))
     | (refine z_ismakes ?_; first
     | refine o_make1 rfl tabOk zeroOk rfl rfl rfl rfl rfl (by decide) fun g => ?_)
     | (refine z_ispick ?_; first
     | (refine o_pick1 rfl (by first | with_reducible rfl | with_reducible assumption | ((with_reducible refine decide_eq_true ?_); first | with_reducible rfl | with_reducible assumption | omega)) rfl (by decide) ?_)
     | (refine o_pick0 rfl (by first | with_reducible rfl | with_reducible assumption | ((with_reducible refine decide_eq_false ?_); first | with_reducible assumption | omega)) rfl (by decide) ?_)
     | (refine o_pick1 rfl (by first | (simp only [Bool.not_eq_true', decide_eq_false_iff_not]; omega) | (with_reducible assumption) | (rw [decide_eq_false] <;> (first | omega | with_reducible rfl)) | (rw [decide_eq_true] <;> (first | omega | with_reducible rfl)) | (simp; done) | (simp; omega)) rfl (by decide) ?_)
     | (refine o_pick0 rfl (by first | (simp only [Bool.not_eq_false', decide_eq_true_eq]; omega) | (with_reducible assumption) | (rw [decide_eq_false] <;> (first | omega | with_reducible rfl)) | (rw [decide_eq_true] <;> (first | omega | with_reducible rfl)) | (simp; done) | (simp; omega)) rfl (by decide) ?_))
     | (refine z_isix ?_; first
     | refine o_index0 tabOk rfl rfl rfl rfl (by omega) (by omega) (by decide) ?_
     | refine o_index1 tabOk rfl rfl rfl rfl (by omega) (by omega) (by decide) ?_
     | refine o_indexsk tabOk rfl rfl rfl rfl (by omega) (by omega) (by decide) ?_
     | refine o_indexs1 tabOk (by first | assumption | exact hne (by omega) | assumption) rfl rfl rfl rfl (by omega) (by omega) (by decide) ?_)
     | (refine z_isbi ?_; first
     | refine o_len tabOk rfl rfl (by decide) ?_
     | refine o_min rfl rfl (by decide) ?_
     | refine o_max rfl rfl (by decide) ?_
     | (refine o_append0 rfl tabOk zeroOk rfl rfl rfl rfl rfl rfl (by first | assumption | exact Rds.cons _ (Rds.cons _ (Rds.cons _ (Rds.cons _ (by assumption)))) | exact Rds.cons _ (Rds.cons _ (Rds.cons _ (Rds.cons _ (Rds.cons _ (by assumption))))) | exact own_rds 0 rfl | exact own_rds 1 rfl | assumption) (by first | rfl | (simp; done)) (by first | rfl | (simp; done)) (by omega) (by omega) (by decide) fun A' c' => ?_)
     | (refine o_append rfl tabOk zeroOk rfl rfl rfl rfl rfl rfl (by first | assumption | exact Rds.cons _ (Rds.cons _ (Rds.cons _ (Rds.cons _ (by assumption)))) | exact Rds.cons _ (Rds.cons _ (Rds.cons _ (Rds.cons _ (Rds.cons _ (by assumption))))) | exact own_rds 0 rfl | exact own_rds 1 rfl | assumption) (by first | rfl | (simp; done)) (by first | rfl | (simp; done)) (by omega) (by omega) (by decide) fun A' c' => ?_)
     | (refine z_front rfl 1 rfl ?_; refine o_append rfl tabOk zeroOk rfl rfl rfl rfl rfl rfl (by first | assumption | exact Rds.cons _ (Rds.cons _ (Rds.cons _ (Rds.cons _ (by assumption)))) | exact Rds.cons _ (Rds.cons _ (Rds.cons _ (Rds.cons _ (Rds.cons _ (by assumption))))) | exact own_rds 0 rfl | exact own_rds 1 rfl | assumption) (by first | rfl | (simp; done)) (by first | rfl | (simp; done)) (by omega) (by omega) (by decide) fun A' c' => ?_)
     | (refine z_front rfl 2 rfl ?_; refine o_append rfl tabOk zeroOk rfl rfl rfl rfl rfl rfl (by first | assumption | exact Rds.cons _ (Rds.cons _ (Rds.cons _ (Rds.cons _ (by assumption)))) | exact Rds.cons _ (Rds.cons _ (Rds.cons _ (Rds.cons _ (Rds.cons _ (by assumption))))) | exact own_rds 0 rfl | exact own_rds 1 rfl | assumption) (by first | rfl | (simp; done)) (by first | rfl | (simp; done)) (by omega) (by omega) (by decide) fun A' c' => ?_)
     | (refine z_front rfl 3 rfl ?_; refine o_append rfl tabOk zeroOk rfl rfl rfl rfl rfl rfl (by first | assumption | exact Rds.cons _ (Rds.cons _ (Rds.cons _ (Rds.cons _ (by assumption)))) | exact Rds.cons _ (Rds.cons _ (Rds.cons _ (Rds.cons _ (Rds.cons _ (by assumption))))) | exact own_rds 0 rfl | exact own_rds 1 rfl | assumption) (by first | rfl | (simp; done)) (by first | rfl | (simp; done)) (by omega) (by omega) (by decide) fun A' c' => ?_)
     | (refine z_front rfl 4 rfl ?_; refine o_append rfl tabOk zeroOk rfl rfl rfl rfl rfl rfl (by first | assumption | exact Rds.cons _ (Rds.cons _ (Rds.cons _ (Rds.cons _ (by assumption)))) | exact Rds.cons _ (Rds.cons _ (Rds.cons _ (Rds.cons _ (Rds.cons _ (by assumption))))) | exact own_rds 0 rfl | exact own_rds 1 rfl | assumption) (by first | rfl | (simp; done)) (by first | rfl | (simp; done)) (by omega) (by omega) (by decide) fun A' c' => ?_)
     | (refine z_front rfl 5 rfl ?_; refine o_append rfl tabOk zeroOk rfl rfl rfl rfl rfl rfl (by first | assumption | exact Rds.cons _ (Rds.cons _ (Rds.cons _ (Rds.cons _ (by assumption)))) | exact Rds.cons _ (Rds.cons _ (Rds.cons _ (Rds.cons _ (Rds.cons _ (by assumption))))) | exact own_rds 0 rfl | exact own_rds 1 rfl | assumption) (by first | rfl | (simp; done)) (by first | rfl | (simp; done)) (by omega) (by omega) (by decide) fun A' c' => ?_))
     | refine o_move rfl (by decide) ?_
     | refine o_assign rfl (by decide) ?_
     | refine o_nil rfl (by decide) ?_
     | refine o_extract rfl rfl (by decide) ?_
     | refine o_not rfl (by decide) ?_
     | refine o_field0 tabOk rfl rfl rfl rfl rfl (by decide) ?_
     | refine o_field tabOk rfl rfl rfl rfl rfl (by decide) ?_
     | refine o_conv tabOk rfl rfl rfl (by decide) ?_))
end
end Go.Proofs.Ytjejnlfbonpfaaa
