/-
A pipe is a list of bytes: the law, walked.
-/
import Derived.Test.YtjejnlfbonpfaaaPipe7
namespace Go.Proofs.Ytjejnlfbonpfaaa
set_option linter.unusedVariables false
set_option linter.unusedSimpArgs false
open Eng
/-- A deed that came in: its kind, its number, its bytes and where they lie. -/
structure Dd where
  k : Int
  n : Int
  A : Option Addr
  c : Nat
  xs : List Int
def Dd.cs (d : Dd) : List Value := [.int .i64 d.k, .int .i64 d.n, .slice d.A d.xs.length d.c]
structure Dd.Ok (W : World) (d : Dd) : Prop where
  rd : Rd W d.A (u8s d.xs)
  hc : d.xs.length ≤ d.c
  hm : d.c ≤ 9223372036854775807
theorem dd_at (D : List Dd) {k : Nat} (d : Dd) (h : D[k]? = some d) : ∀ j u, d.cs[j]? = some u → (D.flatMap Dd.cs)[k * 3 + j]? = some u := fun j u hu => by
  have hj : j < 3 := (List.getElem?_eq_some_iff.1 hu).1
  rw [flat_get Dd.cs 3 (fun _ => rfl) D k j d h hj, hu]
section
variable (bp bs : Nat) (p : Pl) (q wr tk : List Int) (k n : Int) (xs : List Int) (A : Option Addr) (c : Nat) (f g : Bool) (fr : List Chunk)
structure DoneOk (wr tk : List Int) (y : Pl × (List Int × List Int × List Int) × Bool × Bool) : Prop where
  q : y.2.1.1.length ≤ 64
  w : y.2.1.2.1.length ≤ wr.length + 64
  t : y.2.1.2.2.length ≤ tk.length + 64
theorem does_all (hrd : Rds fr A (u8s xs)) (hx : xs.length ≤ 9223372036854775807) (hxc : xs.length ≤ c) (hq : q.length ≤ 64) (hw : wr.length ≤ 100000) (ht : tk.length ≤ 100000) :
    Does Try.prog 31 [pp bp, pp bs, deedV k n A xs.length c] (both bp bs p q wr tk f g fr) (DoneOk wr tk) (fun _ => .bool true) (fun y => both bp bs y.1 y.2.1.1 y.2.1.2.1 y.2.1.2.2 y.2.2.1 y.2.2.2 fr) := by
  by_cases h1 : 0 ≤ k ∧ k ≤ 3
  · obtain ⟨m, er, q', h⟩ : ∃ m er q', wrote q xs f g = (m, er, q') := ⟨_, _, _, rfl⟩
    exact (does_w bp bs p q wr tk k n xs A c f g fr h1.1 h1.2 m er q' h hrd hx hxc hq hw).post fun y hy => ⟨(y.1, (q', y.2, tk), f, g), ⟨wrote_le h hq, hy, by dsimp only; omega⟩, rfl, fun _ _ h => h⟩
  by_cases h2 : 4 ≤ k ∧ k ≤ 6
  · obtain ⟨out, er, q', h⟩ : ∃ m er q', took q n f g = (m, er, q') := ⟨_, _, _, rfl⟩
    exact (does_r bp bs p q wr tk k n A c f g fr h2.1 h2.2 xs.length out er q' h hq ht).post fun y hy => ⟨(y.1, (q', wr, y.2), f, g), ⟨(took_le h hq).1, by dsimp only; omega, hy⟩, rfl, fun _ _ h => h⟩
  by_cases h3 : k = 7
  · exact (does_7 bp bs p q wr tk k n A c f g fr xs.length h3).post fun y hy => ⟨(y, ([], wr, tk), false, g), ⟨Nat.zero_le _, by dsimp only; omega, by dsimp only; omega⟩, rfl, fun _ _ h => h⟩
  by_cases h4 : k = 8
  · exact (does_8 bp bs p q wr tk k n A c f g fr xs.length h4).post fun y hy => ⟨(p, (q, wr, tk), f, false), ⟨hq, by dsimp only; omega, by dsimp only; omega⟩, rfl, fun _ _ h => h⟩
  exact (does_o bp bs p q wr tk k n A c f g fr xs.length (by omega)).post fun y hy => ⟨(p, (q, wr, tk), f, g), ⟨hq, by dsimp only; omega, by dsimp only; omega⟩, rfl, fun _ _ h => h⟩
end
attribute [local irreducible] Eng.Hold Eng.Z Eng.S Eng.arr pipeCs Eng.some_ Eng.own Eng.cells Eng.old u8s
structure PPOk (D : List Dd) (y : Nat × (List Int × List Int × List Int) × Bool × Bool × Pl) : Prop where
  i : y.1 ≤ D.length
  q : y.2.1.1.length ≤ 64
  w : y.2.1.2.1.length ≤ 64 * y.1
  t : y.2.1.2.2.length ≤ 64 * y.1
set_option maxHeartbeats 4000000 in
theorem pipePlays (W : World) (A0 : Option Addr) (c0 : Nat) (D : List Dd) (hrd : Rds [old W] A0 (D.flatMap Dd.cs)) (hx : D.length ≤ 9223372036854775807) (hok : ∀ d ∈ D, d.Ok W) :
    Does Try.prog 10 [.slice A0 D.length c0] [old W] (fun _ : Unit => True) (fun _ => .bool true) (fun _ => [old W]) := by
  intro w hw
  have hne : 0 < D.length → A0 ≠ none := fun h => hrd.ne hw (by rw [flat_len Dd.cs 3 (fun _ => rfl)]; omega)
  refine f_enter Try.func10 rfl Try.ntmps10 rfl hw ?_
  repeat' (first
   | (refine s_is ?_; first
   | (refine s_isw ?_; first
   | (refine s_isloop ?_; first
   | ((refine c_loop (X := Nat × (List Int × List Int × List Int) × Bool × Bool × Pl) (PPOk D) (fun y => [(0, .slice A0 D.length c0), (3, pp bp), (4, pp bs), (5, .int .i64 y.1)]) (fun y => both bp bs y.2.2.2.2 y.2.1.1 y.2.1.2.1 y.2.1.2.2 y.2.2.1 y.2.2.2.1 [old W]) (fun y => D.length - y.1) (0, ([], [], []), true, true, ⟨none, 0, none, 0, none, 0⟩) ⟨Nat.zero_le _, Nat.zero_le _, Nat.zero_le _, Nat.zero_le _⟩ ⟨rfl, rfl, rfl, rfl, trivial⟩ (fun w h => ?_) (fun y hy => ?_); rotate_left; (obtain ⟨i, ⟨q, wr, tk⟩, f, g, p⟩ := y; obtain ⟨hi, hq, hwl, htl⟩ := hy; dsimp only at hi hq hwl htl ⊢; refine hold ?_); rotate_left)))
   | refine c_seq ?_
   | refine c_block ?_
   | ((refine c_region_keep [0, 2, 3, 4, 5, 6, 7, 8] (by repeat (first | exact keep_nil | exact keep_end | apply keep_no rfl | apply keep_yes rfl rfl)) ?_; first | refine c_region ?_ | refine c_mixed mixed (by kernel_rfl) ?_))
   | refine c_mixed mixed (by kernel_rfl) ?_
   | refine c_skip ?_
   | refine c_ret ?_
   | refine c_exit ?_
   | (refine s_iscond ?_; first
   | (refine c_true rfl (by first | with_reducible rfl | with_reducible assumption | ((with_reducible refine decide_eq_true ?_); first | with_reducible rfl | with_reducible assumption | omega)) ?_)
   | (refine c_false rfl (by first | with_reducible rfl | with_reducible assumption | ((with_reducible refine decide_eq_false ?_); first | with_reducible assumption | omega)) ?_)
   | (refine c_true rfl (by first | (simp only [Bool.not_eq_true', decide_eq_false_iff_not]; omega) | (with_reducible assumption) | (rw [decide_eq_false] <;> (first | omega | with_reducible rfl)) | (rw [decide_eq_true] <;> (first | omega | with_reducible rfl)) | (simp; done) | (simp; omega)) ?_)
   | (refine c_false rfl (by first | (simp only [Bool.not_eq_false', decide_eq_true_eq]; omega) | (with_reducible assumption) | (rw [decide_eq_false] <;> (first | omega | with_reducible rfl)) | (rw [decide_eq_true] <;> (first | omega | with_reducible rfl)) | (simp; done) | (simp; omega)) ?_)
   | refine c_cond rfl (fun hc => ?_) (fun hc => ?_)
   | refine c_condb rfl (fun hc => ?_) (fun hc => ?_)))
   | refine x_then ?_
   | refine x_then_ret ?_
   | refine x_then_exit ?_
   | refine x_block _ ?_
   | refine x_block_ret _ ?_
   | refine x_block_exit _ ?_
   | refine x_block_past (by decide) ?_
   | refine z_tailm ?_)
   | (refine z_isg1 ?_; first
   | refine z_skipu (by decide) rfl rfl ?_
   | (refine z_want1 rfl rfl (by first | with_reducible rfl | with_reducible assumption | ((with_reducible refine decide_eq_true ?_); first | with_reducible rfl | with_reducible assumption | omega)) ?_)
   | (refine z_skip1 (by decide) rfl rfl (by first | with_reducible rfl | with_reducible assumption | ((with_reducible refine decide_eq_false ?_); first | with_reducible assumption | omega)) ?_)
   | (refine z_want1 rfl rfl (by first | (simp only [Bool.not_eq_true', decide_eq_false_iff_not]; omega) | (with_reducible assumption) | (rw [decide_eq_false] <;> (first | omega | with_reducible rfl)) | (rw [decide_eq_true] <;> (first | omega | with_reducible rfl)) | (simp; done) | (simp; omega)) ?_)
   | (refine z_skip1 (by decide) rfl rfl (by first | (simp only [Bool.not_eq_false', decide_eq_true_eq]; omega) | (with_reducible assumption) | (rw [decide_eq_false] <;> (first | omega | with_reducible rfl)) | (rw [decide_eq_true] <;> (first | omega | with_reducible rfl)) | (simp; done) | (simp; omega)) ?_)
   | refine z_guard1 (by decide) rfl rfl (fun hc => ?_) (fun hc => ?_)
   | refine z_guardb (by decide) rfl rfl (fun hc => ?_) (fun hc => ?_))
   | (refine z_isg0 ?_; first
   | refine z_skipu (by decide) rfl rfl ?_
   | (refine z_want0 rfl rfl (by first | with_reducible rfl | with_reducible assumption | ((with_reducible refine decide_eq_false ?_); first | with_reducible assumption | omega)) ?_)
   | (refine z_skip0 (by decide) rfl rfl (by first | with_reducible rfl | with_reducible assumption | ((with_reducible refine decide_eq_true ?_); first | with_reducible rfl | with_reducible assumption | omega)) ?_)
   | (refine z_want0 rfl rfl (by first | (simp only [Bool.not_eq_false', decide_eq_true_eq]; omega) | (with_reducible assumption) | (rw [decide_eq_false] <;> (first | omega | with_reducible rfl)) | (rw [decide_eq_true] <;> (first | omega | with_reducible rfl)) | (simp; done) | (simp; omega)) ?_)
   | (refine z_skip0 (by decide) rfl rfl (by first | (simp only [Bool.not_eq_true', decide_eq_false_iff_not]; omega) | (with_reducible assumption) | (rw [decide_eq_false] <;> (first | omega | with_reducible rfl)) | (rw [decide_eq_true] <;> (first | omega | with_reducible rfl)) | (simp; done) | (simp; omega)) ?_)
   | refine z_guard0 (by decide) rfl rfl (fun hc => ?_) (fun hc => ?_)
   | refine z_guardb (by decide) rfl rfl (fun hc => ?_) (fun hc => ?_))
   | (refine z_isnil ?_; first
   | refine z_list ?_
   | refine z_mixed ?_
   | refine z_mono0 ?_
   | refine z_mono1 (by decide) fun g => ?_
   | refine z_mono2 (by decide) (by decide) fun g g' => ?_
   | refine z_mixedx ?_
   | refine z_quiet ?_)
   | (refine z_isop ?_; first
   | refine o_build (v := .agg (stCs ⟨none, 0, none, 0, none, 0⟩ 0 0 0 true true).toArray) rfl (fun _ => by kernel_rfl) (by decide) ?_
   | refine o_boxa rfl rfl (by decide) fun bs => ?_
   | (refine z_isbin ?_; first
   | (refine z_isb .add ?_; first
   | refine o_add rfl rfl (by omega) (by omega) (by decide) ?_
   | refine o_addw rfl rfl (by decide) ?_)
   | (refine z_isb .neq ?_; first
   | refine o_ne rfl rfl (by decide) ?_
   | refine o_bne tabOk rfl rfl rfl (by decide) ?_
   | refine o_pne tabOk rfl rfl (by decide) ?_)
   | (refine z_isb .lss ?_; first
   | refine o_lt rfl rfl (by decide) ?_)
   | (refine z_isb .gtr ?_; first
   | refine o_gt rfl rfl (by decide) ?_))
   | (refine z_isload ?_; first
   | (refine z_ld1 tabOk rfl rfl ?_; first
   | refine o_loadm tabOk rfl rfl rfl (by repeat' (first | exact List.mem_cons_self | apply List.mem_cons_of_mem)) (by first | rfl) (by decide) ?_
   | refine o_loads tabOk (by first | assumption | exact Rds.cons _ (Rds.cons _ (Rds.cons _ (Rds.cons _ (Rds.cons _ (by assumption))))) | assumption) rfl rfl rfl (by first | rfl) (by decide) ?_)
   | (refine z_ldw tabOk rfl rfl ?_; first
   | refine o_loadwm tabOk rfl rfl rfl (by repeat' (first | exact List.mem_cons_self | apply List.mem_cons_of_mem)) (by first | rfl) (by decide) ?_))
   | (refine z_isstore ?_; first
   | (refine z_stw rfl ?_; first
   | ((refine z_sti 0 rfl rfl ?_; refine o_storeb0 rfl tabOk rfl rfl rfl (by first | rfl) (by first | rfl) (by first | rfl) ?_))
   | ((refine z_sti 1 rfl rfl ?_; refine o_storeb1 rfl tabOk rfl rfl rfl (by first | rfl) (by first | rfl) (by first | rfl) ?_))
   | ((refine z_sti 2 rfl rfl ?_; refine o_storeb2 rfl tabOk rfl rfl rfl (by first | rfl) (by first | rfl) (by first | rfl) ?_))
   | ((refine z_sti 3 rfl rfl ?_; refine o_storeb3 rfl tabOk rfl rfl rfl (by first | rfl) (by first | rfl) (by first | rfl) ?_))
   | ((refine z_sti 4 rfl rfl ?_; refine o_storeb4 rfl tabOk rfl rfl rfl (by first | rfl) (by first | rfl) (by first | rfl) ?_))
   | ((refine z_sti 5 rfl rfl ?_; refine o_storeb5 rfl tabOk rfl rfl rfl (by first | rfl) (by first | rfl) (by first | rfl) ?_))
   | ((refine z_sti 6 rfl rfl ?_; refine o_storeb6 rfl tabOk rfl rfl rfl (by first | rfl) (by first | rfl) (by first | rfl) ?_)))
   | (refine z_st1 rfl rfl ?_; first
   | refine o_store rfl tabOk rfl rfl rfl rfl rfl (by first | rfl) (by first | rfl) ?_
   | ((refine z_sti 1 rfl rfl ?_; refine o_store1 rfl tabOk rfl rfl rfl rfl rfl (by first | rfl) (by first | rfl) ?_))
   | ((refine z_sti 2 rfl rfl ?_; refine o_store2 rfl tabOk rfl rfl rfl rfl rfl (by first | rfl) (by first | rfl) ?_))
   | ((refine z_sti 3 rfl rfl ?_; refine o_store3 rfl tabOk rfl rfl rfl rfl rfl (by first | rfl) (by first | rfl) ?_))
   | ((refine z_sti 4 rfl rfl ?_; refine o_store4 rfl tabOk rfl rfl rfl rfl rfl (by first | rfl) (by first | rfl) ?_))
   | ((refine z_sti 5 rfl rfl ?_; refine o_store5 rfl tabOk rfl rfl rfl rfl rfl (by first | rfl) (by first | rfl) ?_))
   | ((refine z_sti 6 rfl rfl ?_; refine o_store6 rfl tabOk rfl rfl rfl rfl rfl (by first | rfl) (by first | rfl) ?_))))
   | (refine z_iscall ?_; first
   | refine o_call Try.func28 rfl rfl rfl pipe_new (List.Perm.refl _) (by decide) fun bp _ => ?_)
   | (refine z_ispick ?_; first
   | (refine o_pick1 rfl (by first | with_reducible rfl | with_reducible assumption | ((with_reducible refine decide_eq_true ?_); first | with_reducible rfl | with_reducible assumption | omega)) rfl (by decide) ?_)
   | (refine o_pick0 rfl (by first | with_reducible rfl | with_reducible assumption | ((with_reducible refine decide_eq_false ?_); first | with_reducible assumption | omega)) rfl (by decide) ?_)
   | (refine o_pick1 rfl (by first | (simp only [Bool.not_eq_true', decide_eq_false_iff_not]; omega) | (with_reducible assumption) | (rw [decide_eq_false] <;> (first | omega | with_reducible rfl)) | (rw [decide_eq_true] <;> (first | omega | with_reducible rfl)) | (simp; done) | (simp; omega)) rfl (by decide) ?_)
   | (refine o_pick0 rfl (by first | (simp only [Bool.not_eq_false', decide_eq_true_eq]; omega) | (with_reducible assumption) | (rw [decide_eq_false] <;> (first | omega | with_reducible rfl)) | (rw [decide_eq_true] <;> (first | omega | with_reducible rfl)) | (simp; done) | (simp; omega)) rfl (by decide) ?_))
   | (refine z_isix ?_; first
   | refine o_index0 tabOk rfl rfl rfl rfl (by omega) (by omega) (by decide) ?_
   | refine o_index1 tabOk rfl rfl rfl rfl (by omega) (by omega) (by decide) ?_
   | refine o_indexsk tabOk rfl rfl rfl rfl (by omega) (by omega) (by decide) ?_
   | refine o_indexs1 tabOk (by first | assumption) rfl rfl rfl rfl (by omega) (by omega) (by decide) ?_)
   | (refine z_isslice ?_; first
   | refine o_slice tabOk rfl rfl rfl rfl rfl (by omega) (by omega) (by omega) (by decide) ?_
   | refine o_slicel tabOk rfl rfl rfl rfl (by omega) (by omega) (by omega) (by decide) ?_
   | refine o_sliceh tabOk rfl rfl rfl rfl (by omega) (by omega) (by decide) ?_
   | refine o_slp tabOk rfl rfl rfl rfl rfl (by omega) (by omega) (by omega) (by omega) (by decide) ?_
   | refine o_slpl tabOk rfl rfl rfl rfl (by omega) (by omega) (by decide) ?_
   | refine o_slp0 tabOk rfl rfl rfl rfl (by decide) ?_)
   | (refine z_isbi ?_; first
   | refine o_len tabOk rfl rfl (by decide) ?_
   | refine o_min rfl rfl (by decide) ?_
   | refine o_max rfl rfl (by decide) ?_)
   | refine o_move rfl (by decide) ?_
   | refine o_assign rfl (by decide) ?_
   | refine o_nil rfl (by decide) ?_
   | refine o_extract rfl rfl (by decide) ?_
   | refine o_not rfl (by decide) ?_
   | refine o_field0 tabOk rfl rfl rfl rfl rfl (by decide) ?_
   | refine o_field tabOk rfl rfl rfl rfl rfl (by decide) ?_
   | refine o_conv tabOk rfl rfl rfl (by decide) ?_))
  · have h := ((h.nil 5 1).nil 5 1).nil 5 1
    have h := ((h.sel 6 [4, 3, 0, 1, 2, 5] (by decide)).mask [true, true, true, true, true, true])
    simp only [fronts, moveF, selF, sel1, nth, List.drop_succ_cons, List.drop_zero, List.eraseIdx_cons_zero, List.eraseIdx_cons_succ, maskL, List.cons_append, List.nil_append, List.append_eq, List.set_cons_zero, List.set_cons_succ] at h
    have e : u8s [] = [] := by unfold u8s; rfl
    dsimp only
    unfold both stC
    rw [e]
    exact h
  refine Hold.go ?_
  by_cases hlt : i < D.length ∧ i < 80
  · obtain ⟨d, hd⟩ : ∃ d, D[i]? = some d := ⟨D[i], List.getElem?_eq_getElem hlt.1⟩
    obtain ⟨hrB, hcB, hmB⟩ := hok d (List.mem_of_getElem? hd)
    repeat' (first
     | (refine s_is ?_; first
     | refine c_join (x := .seq (.region 7 _ _) _) (X := List Int) (fun ys => ys.length ≤ d.c ∧ Rd W d.A (u8s ys)) (fun ys => [(0, .slice A0 D.length c0), (3, pp bp), (4, pp bs), (5, .int .i64 i), (6, pp e)]) (fun ys => cells e 62 [.int .i64 d.k, .int .i64 d.n, .slice d.A ys.length d.c] :: both bp bs p q wr tk f g [old W]) ?_ (fun ys hys => hold ?_)
     | (refine s_ismeet ?_; first
     | exact c_meet d.xs ⟨hcB, hrB⟩ ⟨rfl, rfl, rfl, rfl, rfl, trivial⟩ (fun w h => h))
     | (refine s_isw ?_; first
     | refine c_seq ?_
     | refine c_block ?_
     | ((refine c_region_keep [0, 2, 3, 4, 5, 6, 7, 8] (by repeat (first | exact keep_nil | exact keep_end | apply keep_no rfl | apply keep_yes rfl rfl)) ?_; first | refine c_region ?_ | refine c_mixed mixed (by kernel_rfl) ?_))
     | refine c_mixed mixed (by kernel_rfl) ?_
     | refine c_skip ?_
     | refine c_ret ?_
     | refine c_exit ?_
     | (refine s_iscond ?_; first
     | (refine c_true rfl (by first | with_reducible rfl | with_reducible assumption | ((with_reducible refine decide_eq_true ?_); first | with_reducible rfl | with_reducible assumption | omega)) ?_)
     | (refine c_false rfl (by first | with_reducible rfl | with_reducible assumption | ((with_reducible refine decide_eq_false ?_); first | with_reducible assumption | omega)) ?_)
     | (refine c_true rfl (by first | (simp only [Bool.not_eq_true', decide_eq_false_iff_not]; omega) | (with_reducible assumption) | (rw [decide_eq_false] <;> (first | omega | with_reducible rfl)) | (rw [decide_eq_true] <;> (first | omega | with_reducible rfl)) | (simp; done) | (simp; omega)) ?_)
     | (refine c_false rfl (by first | (simp only [Bool.not_eq_false', decide_eq_true_eq]; omega) | (with_reducible assumption) | (rw [decide_eq_false] <;> (first | omega | with_reducible rfl)) | (rw [decide_eq_true] <;> (first | omega | with_reducible rfl)) | (simp; done) | (simp; omega)) ?_)
     | refine c_cond rfl (fun hc => ?_) (fun hc => ?_)
     | refine c_condb rfl (fun hc => ?_) (fun hc => ?_)))
     | refine x_then ?_
     | refine x_then_ret ?_
     | refine x_then_exit ?_
     | refine x_block _ ?_
     | refine x_block_ret _ ?_
     | refine x_block_exit _ ?_
     | refine x_block_past (by decide) ?_
     | refine z_tailm ?_)
     | (refine z_isg1 ?_; first
     | refine z_skipu (by decide) rfl rfl ?_
     | (refine z_want1 rfl rfl (by first | with_reducible rfl | with_reducible assumption | ((with_reducible refine decide_eq_true ?_); first | with_reducible rfl | with_reducible assumption | omega)) ?_)
     | (refine z_skip1 (by decide) rfl rfl (by first | with_reducible rfl | with_reducible assumption | ((with_reducible refine decide_eq_false ?_); first | with_reducible assumption | omega)) ?_)
     | (refine z_want1 rfl rfl (by first | (simp only [Bool.not_eq_true', decide_eq_false_iff_not]; omega) | (with_reducible assumption) | (rw [decide_eq_false] <;> (first | omega | with_reducible rfl)) | (rw [decide_eq_true] <;> (first | omega | with_reducible rfl)) | (simp; done) | (simp; omega)) ?_)
     | (refine z_skip1 (by decide) rfl rfl (by first | (simp only [Bool.not_eq_false', decide_eq_true_eq]; omega) | (with_reducible assumption) | (rw [decide_eq_false] <;> (first | omega | with_reducible rfl)) | (rw [decide_eq_true] <;> (first | omega | with_reducible rfl)) | (simp; done) | (simp; omega)) ?_)
     | refine z_guard1 (by decide) rfl rfl (fun hc => ?_) (fun hc => ?_)
     | refine z_guardb (by decide) rfl rfl (fun hc => ?_) (fun hc => ?_))
     | (refine z_isg0 ?_; first
     | refine z_skipu (by decide) rfl rfl ?_
     | (refine z_want0 rfl rfl (by first | with_reducible rfl | with_reducible assumption | ((with_reducible refine decide_eq_false ?_); first | with_reducible assumption | omega)) ?_)
     | (refine z_skip0 (by decide) rfl rfl (by first | with_reducible rfl | with_reducible assumption | ((with_reducible refine decide_eq_true ?_); first | with_reducible rfl | with_reducible assumption | omega)) ?_)
     | (refine z_want0 rfl rfl (by first | (simp only [Bool.not_eq_false', decide_eq_true_eq]; omega) | (with_reducible assumption) | (rw [decide_eq_false] <;> (first | omega | with_reducible rfl)) | (rw [decide_eq_true] <;> (first | omega | with_reducible rfl)) | (simp; done) | (simp; omega)) ?_)
     | (refine z_skip0 (by decide) rfl rfl (by first | (simp only [Bool.not_eq_true', decide_eq_false_iff_not]; omega) | (with_reducible assumption) | (rw [decide_eq_false] <;> (first | omega | with_reducible rfl)) | (rw [decide_eq_true] <;> (first | omega | with_reducible rfl)) | (simp; done) | (simp; omega)) ?_)
     | refine z_guard0 (by decide) rfl rfl (fun hc => ?_) (fun hc => ?_)
     | refine z_guardb (by decide) rfl rfl (fun hc => ?_) (fun hc => ?_))
     | (refine z_isnil ?_; first
     | refine z_list ?_
     | refine z_mixed ?_
     | refine z_mono0 ?_
     | refine z_mono1 (by decide) fun g => ?_
     | refine z_mono2 (by decide) (by decide) fun g g' => ?_
     | refine z_mixedx ?_
     | refine z_quiet ?_)
     | (refine z_isop ?_; first
     | refine o_indexsn tabOk (hne (by omega)) rfl rfl rfl rfl (by omega) (by omega) (by decide) ?_
     | refine o_alloca (e := 62) (vs := [.int .i64 0, .int .i64 0, .slice none 0 0]) rfl (by kernel_rfl) (by decide) fun e => ?_
     | (refine z_isbin ?_; first
     | (refine z_isb .add ?_; first
     | refine o_add rfl rfl (by omega) (by omega) (by decide) ?_
     | refine o_addw rfl rfl (by decide) ?_)
     | (refine z_isb .neq ?_; first
     | refine o_ne rfl rfl (by decide) ?_
     | refine o_bne tabOk rfl rfl rfl (by decide) ?_
     | refine o_pne tabOk rfl rfl (by decide) ?_)
     | (refine z_isb .lss ?_; first
     | refine o_lt rfl rfl (by decide) ?_)
     | (refine z_isb .gtr ?_; first
     | refine o_gt rfl rfl (by decide) ?_))
     | (refine z_isload ?_; first
     | refine o_loadsw tabOk (Rds.cons _ (Rds.cons _ (Rds.cons _ (Rds.cons _ (Rds.cons _ hrd))))) rfl rfl rfl (es := d.cs) rfl (Nat.succ_pos _) (dd_at D d hd) (by decide) ?_
     | (refine z_ld1 tabOk rfl rfl ?_; first
     | refine o_loadm tabOk rfl rfl rfl (by repeat' (first | exact List.mem_cons_self | apply List.mem_cons_of_mem)) (by first | rfl) (by decide) ?_
     | refine o_loads tabOk (by first | assumption | exact Rds.cons _ (Rds.cons _ (Rds.cons _ (Rds.cons _ (Rds.cons _ (by assumption))))) | assumption) rfl rfl rfl (by first | rfl) (by decide) ?_)
     | (refine z_ldw tabOk rfl rfl ?_; first
     | refine o_loadwm tabOk rfl rfl rfl (by repeat' (first | exact List.mem_cons_self | apply List.mem_cons_of_mem)) (by first | rfl) (by decide) ?_))
     | (refine z_isstore ?_; first
     | (refine z_stw rfl ?_; first
     | ((refine z_sti 0 rfl rfl ?_; refine o_storeb0 rfl tabOk rfl rfl rfl (by first | rfl) (by first | rfl) (by first | rfl) ?_))
     | ((refine z_sti 1 rfl rfl ?_; refine o_storeb1 rfl tabOk rfl rfl rfl (by first | rfl) (by first | rfl) (by first | rfl) ?_))
     | ((refine z_sti 2 rfl rfl ?_; refine o_storeb2 rfl tabOk rfl rfl rfl (by first | rfl) (by first | rfl) (by first | rfl) ?_))
     | ((refine z_sti 3 rfl rfl ?_; refine o_storeb3 rfl tabOk rfl rfl rfl (by first | rfl) (by first | rfl) (by first | rfl) ?_))
     | ((refine z_sti 4 rfl rfl ?_; refine o_storeb4 rfl tabOk rfl rfl rfl (by first | rfl) (by first | rfl) (by first | rfl) ?_))
     | ((refine z_sti 5 rfl rfl ?_; refine o_storeb5 rfl tabOk rfl rfl rfl (by first | rfl) (by first | rfl) (by first | rfl) ?_))
     | ((refine z_sti 6 rfl rfl ?_; refine o_storeb6 rfl tabOk rfl rfl rfl (by first | rfl) (by first | rfl) (by first | rfl) ?_)))
     | (refine z_st1 rfl rfl ?_; first
     | refine o_store rfl tabOk rfl rfl rfl rfl rfl (by first | rfl) (by first | rfl) ?_
     | ((refine z_sti 1 rfl rfl ?_; refine o_store1 rfl tabOk rfl rfl rfl rfl rfl (by first | rfl) (by first | rfl) ?_))
     | ((refine z_sti 2 rfl rfl ?_; refine o_store2 rfl tabOk rfl rfl rfl rfl rfl (by first | rfl) (by first | rfl) ?_))
     | ((refine z_sti 3 rfl rfl ?_; refine o_store3 rfl tabOk rfl rfl rfl rfl rfl (by first | rfl) (by first | rfl) ?_))
     | ((refine z_sti 4 rfl rfl ?_; refine o_store4 rfl tabOk rfl rfl rfl rfl rfl (by first | rfl) (by first | rfl) ?_))
     | ((refine z_sti 5 rfl rfl ?_; refine o_store5 rfl tabOk rfl rfl rfl rfl rfl (by first | rfl) (by first | rfl) ?_))
     | ((refine z_sti 6 rfl rfl ?_; refine o_store6 rfl tabOk rfl rfl rfl rfl rfl (by first | rfl) (by first | rfl) ?_))))
     | (refine z_ispick ?_; first
     | (refine o_pick1 rfl (by first | with_reducible rfl | with_reducible assumption | ((with_reducible refine decide_eq_true ?_); first | with_reducible rfl | with_reducible assumption | omega)) rfl (by decide) ?_)
     | (refine o_pick0 rfl (by first | with_reducible rfl | with_reducible assumption | ((with_reducible refine decide_eq_false ?_); first | with_reducible assumption | omega)) rfl (by decide) ?_)
     | (refine o_pick1 rfl (by first | (simp only [Bool.not_eq_true', decide_eq_false_iff_not]; omega) | (with_reducible assumption) | (rw [decide_eq_false] <;> (first | omega | with_reducible rfl)) | (rw [decide_eq_true] <;> (first | omega | with_reducible rfl)) | (simp; done) | (simp; omega)) rfl (by decide) ?_)
     | (refine o_pick0 rfl (by first | (simp only [Bool.not_eq_false', decide_eq_true_eq]; omega) | (with_reducible assumption) | (rw [decide_eq_false] <;> (first | omega | with_reducible rfl)) | (rw [decide_eq_true] <;> (first | omega | with_reducible rfl)) | (simp; done) | (simp; omega)) rfl (by decide) ?_))
     | (refine z_isix ?_; first
     | refine o_index0 tabOk rfl rfl rfl rfl (by omega) (by omega) (by decide) ?_
     | refine o_index1 tabOk rfl rfl rfl rfl (by omega) (by omega) (by decide) ?_
     | refine o_indexsk tabOk rfl rfl rfl rfl (by omega) (by omega) (by decide) ?_
     | refine o_indexs1 tabOk (by first | assumption) rfl rfl rfl rfl (by omega) (by omega) (by decide) ?_)
     | (refine z_isslice ?_; first
     | refine o_slice tabOk rfl rfl rfl rfl rfl (by omega) (by omega) (by omega) (by decide) ?_
     | refine o_slicel tabOk rfl rfl rfl rfl (by omega) (by omega) (by omega) (by decide) ?_
     | refine o_sliceh tabOk rfl rfl rfl rfl (by omega) (by omega) (by decide) ?_
     | refine o_slp tabOk rfl rfl rfl rfl rfl (by omega) (by omega) (by omega) (by omega) (by decide) ?_
     | refine o_slpl tabOk rfl rfl rfl rfl (by omega) (by omega) (by decide) ?_
     | refine o_slp0 tabOk rfl rfl rfl rfl (by decide) ?_)
     | (refine z_isbi ?_; first
     | refine o_len tabOk rfl rfl (by decide) ?_
     | refine o_min rfl rfl (by decide) ?_
     | refine o_max rfl rfl (by decide) ?_)
     | refine o_move rfl (by decide) ?_
     | refine o_assign rfl (by decide) ?_
     | refine o_nil rfl (by decide) ?_
     | refine o_extract rfl rfl (by decide) ?_
     | refine o_not rfl (by decide) ?_
     | refine o_field0 tabOk rfl rfl rfl rfl rfl (by decide) ?_
     | refine o_field tabOk rfl rfl rfl rfl rfl (by decide) ?_
     | refine o_conv tabOk rfl rfl rfl (by decide) ?_))
    · refine c_meet (d.xs.take 100) ⟨by rw [List.length_take]; omega, fun j u hu => hrB j u ?_⟩ ⟨rfl, rfl, rfl, rfl, rfl, trivial⟩ (fun w h => ?_)
      · rw [u8s_take, List.getElem?_take] at hu
        split at hu
        · exact hu
        · cases hu
      · rw [List.length_take, show min 100 d.xs.length = 100 by omega]
        exact h
    · refine Hold.go ?_
      obtain ⟨hyc, hyr⟩ := hys
      repeat' (first
       | (refine s_is ?_; first
       | (refine s_isagain ?_; first
       | (exact c_again (i + 1, (q', wr', tk'), f', g', p') ⟨by dsimp only; omega, hz1, by dsimp only; omega, by dsimp only; omega⟩ (by dsimp only; omega) ⟨rfl, rfl, rfl, rfl, trivial⟩ (fun w h => ((h.sel 7 [0, 1, 2, 3, 4, 5, 6] (by decide)).mask [true, true, true, true, true, true, false]))))
       | (refine s_isw ?_; first
       | refine c_seq ?_
       | refine c_block ?_
       | ((refine c_region_keep [0, 2, 3, 4, 5, 6, 7, 8] (by repeat (first | exact keep_nil | exact keep_end | apply keep_no rfl | apply keep_yes rfl rfl)) ?_; first | refine c_region ?_ | refine c_mixed mixed (by kernel_rfl) ?_))
       | refine c_mixed mixed (by kernel_rfl) ?_
       | refine c_skip ?_
       | refine c_ret ?_
       | refine c_exit ?_
       | (refine s_iscond ?_; first
       | (refine c_true rfl (by first | with_reducible rfl | with_reducible assumption | ((with_reducible refine decide_eq_true ?_); first | with_reducible rfl | with_reducible assumption | omega)) ?_)
       | (refine c_false rfl (by first | with_reducible rfl | with_reducible assumption | ((with_reducible refine decide_eq_false ?_); first | with_reducible assumption | omega)) ?_)
       | (refine c_true rfl (by first | (simp only [Bool.not_eq_true', decide_eq_false_iff_not]; omega) | (with_reducible assumption) | (rw [decide_eq_false] <;> (first | omega | with_reducible rfl)) | (rw [decide_eq_true] <;> (first | omega | with_reducible rfl)) | (simp; done) | (simp; omega)) ?_)
       | (refine c_false rfl (by first | (simp only [Bool.not_eq_false', decide_eq_true_eq]; omega) | (with_reducible assumption) | (rw [decide_eq_false] <;> (first | omega | with_reducible rfl)) | (rw [decide_eq_true] <;> (first | omega | with_reducible rfl)) | (simp; done) | (simp; omega)) ?_)
       | refine c_cond rfl (fun hc => ?_) (fun hc => ?_)
       | refine c_condb rfl (fun hc => ?_) (fun hc => ?_)))
       | refine x_then ?_
       | refine x_then_ret ?_
       | refine x_then_exit ?_
       | refine x_block _ ?_
       | refine x_block_ret _ ?_
       | refine x_block_exit _ ?_
       | refine x_block_past (by decide) ?_
       | refine z_tailm ?_)
       | (refine z_isg1 ?_; first
       | refine z_skipu (by decide) rfl rfl ?_
       | (refine z_want1 rfl rfl (by first | with_reducible rfl | with_reducible assumption | ((with_reducible refine decide_eq_true ?_); first | with_reducible rfl | with_reducible assumption | omega)) ?_)
       | (refine z_skip1 (by decide) rfl rfl (by first | with_reducible rfl | with_reducible assumption | ((with_reducible refine decide_eq_false ?_); first | with_reducible assumption | omega)) ?_)
       | (refine z_want1 rfl rfl (by first | (simp only [Bool.not_eq_true', decide_eq_false_iff_not]; omega) | (with_reducible assumption) | (rw [decide_eq_false] <;> (first | omega | with_reducible rfl)) | (rw [decide_eq_true] <;> (first | omega | with_reducible rfl)) | (simp; done) | (simp; omega)) ?_)
       | (refine z_skip1 (by decide) rfl rfl (by first | (simp only [Bool.not_eq_false', decide_eq_true_eq]; omega) | (with_reducible assumption) | (rw [decide_eq_false] <;> (first | omega | with_reducible rfl)) | (rw [decide_eq_true] <;> (first | omega | with_reducible rfl)) | (simp; done) | (simp; omega)) ?_)
       | refine z_guard1 (by decide) rfl rfl (fun hc => ?_) (fun hc => ?_)
       | refine z_guardb (by decide) rfl rfl (fun hc => ?_) (fun hc => ?_))
       | (refine z_isg0 ?_; first
       | refine z_skipu (by decide) rfl rfl ?_
       | (refine z_want0 rfl rfl (by first | with_reducible rfl | with_reducible assumption | ((with_reducible refine decide_eq_false ?_); first | with_reducible assumption | omega)) ?_)
       | (refine z_skip0 (by decide) rfl rfl (by first | with_reducible rfl | with_reducible assumption | ((with_reducible refine decide_eq_true ?_); first | with_reducible rfl | with_reducible assumption | omega)) ?_)
       | (refine z_want0 rfl rfl (by first | (simp only [Bool.not_eq_false', decide_eq_true_eq]; omega) | (with_reducible assumption) | (rw [decide_eq_false] <;> (first | omega | with_reducible rfl)) | (rw [decide_eq_true] <;> (first | omega | with_reducible rfl)) | (simp; done) | (simp; omega)) ?_)
       | (refine z_skip0 (by decide) rfl rfl (by first | (simp only [Bool.not_eq_true', decide_eq_false_iff_not]; omega) | (with_reducible assumption) | (rw [decide_eq_false] <;> (first | omega | with_reducible rfl)) | (rw [decide_eq_true] <;> (first | omega | with_reducible rfl)) | (simp; done) | (simp; omega)) ?_)
       | refine z_guard0 (by decide) rfl rfl (fun hc => ?_) (fun hc => ?_)
       | refine z_guardb (by decide) rfl rfl (fun hc => ?_) (fun hc => ?_))
       | (refine z_isnil ?_; first
       | refine z_list ?_
       | refine z_mixed ?_
       | refine z_mono0 ?_
       | refine z_mono1 (by decide) fun g => ?_
       | refine z_mono2 (by decide) (by decide) fun g g' => ?_
       | refine z_mixedx ?_
       | refine z_quiet ?_)
       | (refine z_isop ?_; first
       | (refine z_isbin ?_; first
       | (refine z_isb .add ?_; first
       | refine o_add rfl rfl (by omega) (by omega) (by decide) ?_
       | refine o_addw rfl rfl (by decide) ?_)
       | (refine z_isb .neq ?_; first
       | refine o_ne rfl rfl (by decide) ?_
       | refine o_bne tabOk rfl rfl rfl (by decide) ?_
       | refine o_pne tabOk rfl rfl (by decide) ?_)
       | (refine z_isb .lss ?_; first
       | refine o_lt rfl rfl (by decide) ?_)
       | (refine z_isb .gtr ?_; first
       | refine o_gt rfl rfl (by decide) ?_))
       | (refine z_isload ?_; first
       | (refine z_ld1 tabOk rfl rfl ?_; first
       | refine o_loadm tabOk rfl rfl rfl (by repeat' (first | exact List.mem_cons_self | apply List.mem_cons_of_mem)) (by first | rfl) (by decide) ?_
       | refine o_loads tabOk (by first | assumption | exact Rds.cons _ (Rds.cons _ (Rds.cons _ (Rds.cons _ (Rds.cons _ (by assumption))))) | assumption) rfl rfl rfl (by first | rfl) (by decide) ?_)
       | (refine z_ldw tabOk rfl rfl ?_; first
       | refine o_loadwm tabOk rfl rfl rfl (by repeat' (first | exact List.mem_cons_self | apply List.mem_cons_of_mem)) (by first | rfl) (by decide) ?_))
       | (refine z_isstore ?_; first
       | (refine z_stw rfl ?_; first
       | ((refine z_sti 0 rfl rfl ?_; refine o_storeb0 rfl tabOk rfl rfl rfl (by first | rfl) (by first | rfl) (by first | rfl) ?_))
       | ((refine z_sti 1 rfl rfl ?_; refine o_storeb1 rfl tabOk rfl rfl rfl (by first | rfl) (by first | rfl) (by first | rfl) ?_))
       | ((refine z_sti 2 rfl rfl ?_; refine o_storeb2 rfl tabOk rfl rfl rfl (by first | rfl) (by first | rfl) (by first | rfl) ?_))
       | ((refine z_sti 3 rfl rfl ?_; refine o_storeb3 rfl tabOk rfl rfl rfl (by first | rfl) (by first | rfl) (by first | rfl) ?_))
       | ((refine z_sti 4 rfl rfl ?_; refine o_storeb4 rfl tabOk rfl rfl rfl (by first | rfl) (by first | rfl) (by first | rfl) ?_))
       | ((refine z_sti 5 rfl rfl ?_; refine o_storeb5 rfl tabOk rfl rfl rfl (by first | rfl) (by first | rfl) (by first | rfl) ?_))
       | ((refine z_sti 6 rfl rfl ?_; refine o_storeb6 rfl tabOk rfl rfl rfl (by first | rfl) (by first | rfl) (by first | rfl) ?_)))
       | (refine z_st1 rfl rfl ?_; first
       | refine o_store rfl tabOk rfl rfl rfl rfl rfl (by first | rfl) (by first | rfl) ?_
       | ((refine z_sti 1 rfl rfl ?_; refine o_store1 rfl tabOk rfl rfl rfl rfl rfl (by first | rfl) (by first | rfl) ?_))
       | ((refine z_sti 2 rfl rfl ?_; refine o_store2 rfl tabOk rfl rfl rfl rfl rfl (by first | rfl) (by first | rfl) ?_))
       | ((refine z_sti 3 rfl rfl ?_; refine o_store3 rfl tabOk rfl rfl rfl rfl rfl (by first | rfl) (by first | rfl) ?_))
       | ((refine z_sti 4 rfl rfl ?_; refine o_store4 rfl tabOk rfl rfl rfl rfl rfl (by first | rfl) (by first | rfl) ?_))
       | ((refine z_sti 5 rfl rfl ?_; refine o_store5 rfl tabOk rfl rfl rfl rfl rfl (by first | rfl) (by first | rfl) ?_))
       | ((refine z_sti 6 rfl rfl ?_; refine o_store6 rfl tabOk rfl rfl rfl rfl rfl (by first | rfl) (by first | rfl) ?_))))
       | (refine z_iscall ?_; first
       | ((refine z_iscallf 31 ?_; refine z_sel rfl 7 [1, 2, 3, 4, 5, 6, 0] (by decide) ?_; refine o_call Try.func31 rfl rfl rfl (does_all bp bs p q wr tk d.k d.n ys d.A d.c f g [old W] (old_rds hyr 0 rfl) (by omega) hyc hq (by omega) (by omega)) (List.Perm.refl _) (by decide) fun z hz => ?_; obtain ⟨p', ⟨q', wr', tk'⟩, f', g'⟩ := z; obtain ⟨hz1, hz2, hz3⟩ := hz; dsimp only at hz1 hz2 hz3 ⊢))
       | ((refine z_iscallf 40 ?_; refine o_call Try.func40 rfl rfl rfl (popenq bp q' f' g') (List.Perm.refl _) (by decide) fun _ _ => ?_))
       | ((refine z_iscallf 32 ?_; refine o_callq (.inl ⟨_, .inr rfl⟩) Try.func32 rfl rfl rfl (plenq bp q' f' g') (List.Perm.refl _) (by decide) (fun _ _ => rfl) (fun _ _ => List.Sublist.refl _) ?_)))
       | (refine z_ispick ?_; first
       | (refine o_pick1 rfl (by first | with_reducible rfl | with_reducible assumption | ((with_reducible refine decide_eq_true ?_); first | with_reducible rfl | with_reducible assumption | omega)) rfl (by decide) ?_)
       | (refine o_pick0 rfl (by first | with_reducible rfl | with_reducible assumption | ((with_reducible refine decide_eq_false ?_); first | with_reducible assumption | omega)) rfl (by decide) ?_)
       | (refine o_pick1 rfl (by first | (simp only [Bool.not_eq_true', decide_eq_false_iff_not]; omega) | (with_reducible assumption) | (rw [decide_eq_false] <;> (first | omega | with_reducible rfl)) | (rw [decide_eq_true] <;> (first | omega | with_reducible rfl)) | (simp; done) | (simp; omega)) rfl (by decide) ?_)
       | (refine o_pick0 rfl (by first | (simp only [Bool.not_eq_false', decide_eq_true_eq]; omega) | (with_reducible assumption) | (rw [decide_eq_false] <;> (first | omega | with_reducible rfl)) | (rw [decide_eq_true] <;> (first | omega | with_reducible rfl)) | (simp; done) | (simp; omega)) rfl (by decide) ?_))
       | (refine z_isix ?_; first
       | refine o_index0 tabOk rfl rfl rfl rfl (by omega) (by omega) (by decide) ?_
       | refine o_index1 tabOk rfl rfl rfl rfl (by omega) (by omega) (by decide) ?_
       | refine o_indexsk tabOk rfl rfl rfl rfl (by omega) (by omega) (by decide) ?_
       | refine o_indexs1 tabOk (by first | assumption) rfl rfl rfl rfl (by omega) (by omega) (by decide) ?_)
       | (refine z_isslice ?_; first
       | refine o_slice tabOk rfl rfl rfl rfl rfl (by omega) (by omega) (by omega) (by decide) ?_
       | refine o_slicel tabOk rfl rfl rfl rfl (by omega) (by omega) (by omega) (by decide) ?_
       | refine o_sliceh tabOk rfl rfl rfl rfl (by omega) (by omega) (by decide) ?_
       | refine o_slp tabOk rfl rfl rfl rfl rfl (by omega) (by omega) (by omega) (by omega) (by decide) ?_
       | refine o_slpl tabOk rfl rfl rfl rfl (by omega) (by omega) (by decide) ?_
       | refine o_slp0 tabOk rfl rfl rfl rfl (by decide) ?_)
       | (refine z_isbi ?_; first
       | refine o_len tabOk rfl rfl (by decide) ?_
       | refine o_min rfl rfl (by decide) ?_
       | refine o_max rfl rfl (by decide) ?_)
       | refine o_move rfl (by decide) ?_
       | refine o_assign rfl (by decide) ?_
       | refine o_nil rfl (by decide) ?_
       | refine o_extract rfl rfl (by decide) ?_
       | refine o_not rfl (by decide) ?_
       | refine o_field0 tabOk rfl rfl rfl rfl rfl (by decide) ?_
       | refine o_field tabOk rfl rfl rfl rfl rfl (by decide) ?_
       | refine o_conv tabOk rfl rfl rfl (by decide) ?_))
  · skip
    repeat' (first
     | (refine s_is ?_; first
     | (refine s_isret ?_; first
     | exact f_r1 rfl (res_t rfl) () trivial rfl (fun w h => h.mask [false, false, false, false, false, true]))
     | (refine s_isw ?_; first
     | refine c_seq ?_
     | refine c_block ?_
     | ((refine c_region_keep [0, 2, 3, 4, 5, 6, 7, 8] (by repeat (first | exact keep_nil | exact keep_end | apply keep_no rfl | apply keep_yes rfl rfl)) ?_; first | refine c_region ?_ | refine c_mixed mixed (by kernel_rfl) ?_))
     | refine c_mixed mixed (by kernel_rfl) ?_
     | refine c_skip ?_
     | refine c_ret ?_
     | refine c_exit ?_
     | (refine s_iscond ?_; first
     | (refine c_true rfl (by first | with_reducible rfl | with_reducible assumption | ((with_reducible refine decide_eq_true ?_); first | with_reducible rfl | with_reducible assumption | omega)) ?_)
     | (refine c_false rfl (by first | with_reducible rfl | with_reducible assumption | ((with_reducible refine decide_eq_false ?_); first | with_reducible assumption | omega)) ?_)
     | (refine c_true rfl (by first | (simp only [Bool.not_eq_true', decide_eq_false_iff_not]; omega) | (with_reducible assumption) | (rw [decide_eq_false] <;> (first | omega | with_reducible rfl)) | (rw [decide_eq_true] <;> (first | omega | with_reducible rfl)) | (simp; done) | (simp; omega)) ?_)
     | (refine c_false rfl (by first | (simp only [Bool.not_eq_false', decide_eq_true_eq]; omega) | (with_reducible assumption) | (rw [decide_eq_false] <;> (first | omega | with_reducible rfl)) | (rw [decide_eq_true] <;> (first | omega | with_reducible rfl)) | (simp; done) | (simp; omega)) ?_)
     | refine c_cond rfl (fun hc => ?_) (fun hc => ?_)
     | refine c_condb rfl (fun hc => ?_) (fun hc => ?_)))
     | refine x_then ?_
     | refine x_then_ret ?_
     | refine x_then_exit ?_
     | refine x_block _ ?_
     | refine x_block_ret _ ?_
     | refine x_block_exit _ ?_
     | refine x_block_past (by decide) ?_
     | refine z_tailm ?_)
     | (refine z_isg1 ?_; first
     | refine z_skipu (by decide) rfl rfl ?_
     | (refine z_want1 rfl rfl (by first | with_reducible rfl | with_reducible assumption | ((with_reducible refine decide_eq_true ?_); first | with_reducible rfl | with_reducible assumption | omega)) ?_)
     | (refine z_skip1 (by decide) rfl rfl (by first | with_reducible rfl | with_reducible assumption | ((with_reducible refine decide_eq_false ?_); first | with_reducible assumption | omega)) ?_)
     | (refine z_want1 rfl rfl (by first | (simp only [Bool.not_eq_true', decide_eq_false_iff_not]; omega) | (with_reducible assumption) | (rw [decide_eq_false] <;> (first | omega | with_reducible rfl)) | (rw [decide_eq_true] <;> (first | omega | with_reducible rfl)) | (simp; done) | (simp; omega)) ?_)
     | (refine z_skip1 (by decide) rfl rfl (by first | (simp only [Bool.not_eq_false', decide_eq_true_eq]; omega) | (with_reducible assumption) | (rw [decide_eq_false] <;> (first | omega | with_reducible rfl)) | (rw [decide_eq_true] <;> (first | omega | with_reducible rfl)) | (simp; done) | (simp; omega)) ?_)
     | refine z_guard1 (by decide) rfl rfl (fun hc => ?_) (fun hc => ?_)
     | refine z_guardb (by decide) rfl rfl (fun hc => ?_) (fun hc => ?_))
     | (refine z_isg0 ?_; first
     | refine z_skipu (by decide) rfl rfl ?_
     | (refine z_want0 rfl rfl (by first | with_reducible rfl | with_reducible assumption | ((with_reducible refine decide_eq_false ?_); first | with_reducible assumption | omega)) ?_)
     | (refine z_skip0 (by decide) rfl rfl (by first | with_reducible rfl | with_reducible assumption | ((with_reducible refine decide_eq_true ?_); first | with_reducible rfl | with_reducible assumption | omega)) ?_)
     | (refine z_want0 rfl rfl (by first | (simp only [Bool.not_eq_false', decide_eq_true_eq]; omega) | (with_reducible assumption) | (rw [decide_eq_false] <;> (first | omega | with_reducible rfl)) | (rw [decide_eq_true] <;> (first | omega | with_reducible rfl)) | (simp; done) | (simp; omega)) ?_)
     | (refine z_skip0 (by decide) rfl rfl (by first | (simp only [Bool.not_eq_true', decide_eq_false_iff_not]; omega) | (with_reducible assumption) | (rw [decide_eq_false] <;> (first | omega | with_reducible rfl)) | (rw [decide_eq_true] <;> (first | omega | with_reducible rfl)) | (simp; done) | (simp; omega)) ?_)
     | refine z_guard0 (by decide) rfl rfl (fun hc => ?_) (fun hc => ?_)
     | refine z_guardb (by decide) rfl rfl (fun hc => ?_) (fun hc => ?_))
     | (refine z_isnil ?_; first
     | refine z_list ?_
     | refine z_mixed ?_
     | refine z_mono0 ?_
     | refine z_mono1 (by decide) fun g => ?_
     | refine z_mono2 (by decide) (by decide) fun g g' => ?_
     | refine z_mixedx ?_
     | refine z_quiet ?_)
     | (refine z_isop ?_; first
     | (refine z_isbin ?_; first
     | (refine z_isb .add ?_; first
     | refine o_add rfl rfl (by omega) (by omega) (by decide) ?_
     | refine o_addw rfl rfl (by decide) ?_)
     | (refine z_isb .neq ?_; first
     | refine o_ne rfl rfl (by decide) ?_
     | refine o_bne tabOk rfl rfl rfl (by decide) ?_
     | refine o_pne tabOk rfl rfl (by decide) ?_)
     | (refine z_isb .lss ?_; first
     | refine o_lt rfl rfl (by decide) ?_)
     | (refine z_isb .gtr ?_; first
     | refine o_gt rfl rfl (by decide) ?_))
     | (refine z_isload ?_; first
     | (refine z_ld1 tabOk rfl rfl ?_; first
     | refine o_loadm tabOk rfl rfl rfl (by repeat' (first | exact List.mem_cons_self | apply List.mem_cons_of_mem)) (by first | rfl) (by decide) ?_
     | refine o_loads tabOk (by first | assumption | exact Rds.cons _ (Rds.cons _ (Rds.cons _ (Rds.cons _ (Rds.cons _ (by assumption))))) | assumption) rfl rfl rfl (by first | rfl) (by decide) ?_)
     | (refine z_ldw tabOk rfl rfl ?_; first
     | refine o_loadwm tabOk rfl rfl rfl (by repeat' (first | exact List.mem_cons_self | apply List.mem_cons_of_mem)) (by first | rfl) (by decide) ?_))
     | (refine z_isstore ?_; first
     | (refine z_stw rfl ?_; first
     | ((refine z_sti 0 rfl rfl ?_; refine o_storeb0 rfl tabOk rfl rfl rfl (by first | rfl) (by first | rfl) (by first | rfl) ?_))
     | ((refine z_sti 1 rfl rfl ?_; refine o_storeb1 rfl tabOk rfl rfl rfl (by first | rfl) (by first | rfl) (by first | rfl) ?_))
     | ((refine z_sti 2 rfl rfl ?_; refine o_storeb2 rfl tabOk rfl rfl rfl (by first | rfl) (by first | rfl) (by first | rfl) ?_))
     | ((refine z_sti 3 rfl rfl ?_; refine o_storeb3 rfl tabOk rfl rfl rfl (by first | rfl) (by first | rfl) (by first | rfl) ?_))
     | ((refine z_sti 4 rfl rfl ?_; refine o_storeb4 rfl tabOk rfl rfl rfl (by first | rfl) (by first | rfl) (by first | rfl) ?_))
     | ((refine z_sti 5 rfl rfl ?_; refine o_storeb5 rfl tabOk rfl rfl rfl (by first | rfl) (by first | rfl) (by first | rfl) ?_))
     | ((refine z_sti 6 rfl rfl ?_; refine o_storeb6 rfl tabOk rfl rfl rfl (by first | rfl) (by first | rfl) (by first | rfl) ?_)))
     | (refine z_st1 rfl rfl ?_; first
     | refine o_store rfl tabOk rfl rfl rfl rfl rfl (by first | rfl) (by first | rfl) ?_
     | ((refine z_sti 1 rfl rfl ?_; refine o_store1 rfl tabOk rfl rfl rfl rfl rfl (by first | rfl) (by first | rfl) ?_))
     | ((refine z_sti 2 rfl rfl ?_; refine o_store2 rfl tabOk rfl rfl rfl rfl rfl (by first | rfl) (by first | rfl) ?_))
     | ((refine z_sti 3 rfl rfl ?_; refine o_store3 rfl tabOk rfl rfl rfl rfl rfl (by first | rfl) (by first | rfl) ?_))
     | ((refine z_sti 4 rfl rfl ?_; refine o_store4 rfl tabOk rfl rfl rfl rfl rfl (by first | rfl) (by first | rfl) ?_))
     | ((refine z_sti 5 rfl rfl ?_; refine o_store5 rfl tabOk rfl rfl rfl rfl rfl (by first | rfl) (by first | rfl) ?_))
     | ((refine z_sti 6 rfl rfl ?_; refine o_store6 rfl tabOk rfl rfl rfl rfl rfl (by first | rfl) (by first | rfl) ?_))))
     | (refine z_iscall ?_; first
     | refine o_call Try.func34 rfl rfl rfl awake35 (List.Perm.refl _) (by decide) fun _ _ => ?_)
     | (refine z_ispick ?_; first
     | (refine o_pick1 rfl (by first | with_reducible rfl | with_reducible assumption | ((with_reducible refine decide_eq_true ?_); first | with_reducible rfl | with_reducible assumption | omega)) rfl (by decide) ?_)
     | (refine o_pick0 rfl (by first | with_reducible rfl | with_reducible assumption | ((with_reducible refine decide_eq_false ?_); first | with_reducible assumption | omega)) rfl (by decide) ?_)
     | (refine o_pick1 rfl (by first | (simp only [Bool.not_eq_true', decide_eq_false_iff_not]; omega) | (with_reducible assumption) | (rw [decide_eq_false] <;> (first | omega | with_reducible rfl)) | (rw [decide_eq_true] <;> (first | omega | with_reducible rfl)) | (simp; done) | (simp; omega)) rfl (by decide) ?_)
     | (refine o_pick0 rfl (by first | (simp only [Bool.not_eq_false', decide_eq_true_eq]; omega) | (with_reducible assumption) | (rw [decide_eq_false] <;> (first | omega | with_reducible rfl)) | (rw [decide_eq_true] <;> (first | omega | with_reducible rfl)) | (simp; done) | (simp; omega)) rfl (by decide) ?_))
     | (refine z_isix ?_; first
     | refine o_index0 tabOk rfl rfl rfl rfl (by omega) (by omega) (by decide) ?_
     | refine o_index1 tabOk rfl rfl rfl rfl (by omega) (by omega) (by decide) ?_
     | refine o_indexsk tabOk rfl rfl rfl rfl (by omega) (by omega) (by decide) ?_
     | refine o_indexs1 tabOk (by first | assumption) rfl rfl rfl rfl (by omega) (by omega) (by decide) ?_)
     | (refine z_isslice ?_; first
     | refine o_slice tabOk rfl rfl rfl rfl rfl (by omega) (by omega) (by omega) (by decide) ?_
     | refine o_slicel tabOk rfl rfl rfl rfl (by omega) (by omega) (by omega) (by decide) ?_
     | refine o_sliceh tabOk rfl rfl rfl rfl (by omega) (by omega) (by decide) ?_
     | refine o_slp tabOk rfl rfl rfl rfl rfl (by omega) (by omega) (by omega) (by omega) (by decide) ?_
     | refine o_slpl tabOk rfl rfl rfl rfl (by omega) (by omega) (by decide) ?_
     | refine o_slp0 tabOk rfl rfl rfl rfl (by decide) ?_)
     | (refine z_isbi ?_; first
     | refine o_len tabOk rfl rfl (by decide) ?_
     | refine o_min rfl rfl (by decide) ?_
     | refine o_max rfl rfl (by decide) ?_)
     | refine o_move rfl (by decide) ?_
     | refine o_assign rfl (by decide) ?_
     | refine o_nil rfl (by decide) ?_
     | refine o_extract rfl rfl (by decide) ?_
     | refine o_not rfl (by decide) ?_
     | refine o_field0 tabOk rfl rfl rfl rfl rfl (by decide) ?_
     | refine o_field tabOk rfl rfl rfl rfl rfl (by decide) ?_
     | refine o_conv tabOk rfl rfl rfl (by decide) ?_))
end Go.Proofs.Ytjejnlfbonpfaaa
