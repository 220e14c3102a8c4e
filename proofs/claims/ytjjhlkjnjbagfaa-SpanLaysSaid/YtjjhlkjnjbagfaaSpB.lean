/-
Span: what is taken out and put back; whatever is laid together.
-/
import Derived.Test.YtjjhlkjnjbagfaaSp9
namespace Go.Proofs.Ytjjhlkjnjbagfaa
set_option linter.unusedVariables false
set_option linter.unusedSimpArgs false
open Eng
theorem smade_cs (D : List Ds) (s : Nat → Bool) (hM : msc D = s) (A0 : Option Addr) (c0 : Nat) (fr : List Chunk) (hrd0 : Rds fr A0 (D.flatMap Ds.cs)) (hx : D.length ≤ 9223372036854775807) :
    Does Try.prog 19 [.slice A0 D.length c0] fr (fun _ : Option Addr × Nat => True) (fun x => .tuple #[.agg #[.slice x.1 (rws s).length x.2], .agg (bs s).toArray]) (fun x => own x.1 x.2 84 2 (rws s).length (rc (rws s)) :: fr) := by
  subst hM; exact smade_c D A0 c0 fr hrd0 hx
/-- The empty set. -/
def emp : Nat → Bool := fun _ => false
theorem al_emp : ∀ n, al emp n = []
  | 0 => rfl
  | n + 1 => by rw [al_no rfl, al_emp n]
theorem lay_back1 (s t : Nat → Bool) : layS 0 (layS 1 s (layS 2 s t)) (layS 2 s t) = s := by
  funext j; unfold layS layB; cases s j <;> cases t j <;> rfl
theorem lay_back2 (s t : Nat → Bool) : layS 0 (layS 1 s t) (layS 2 s t) = s := by
  funext j; unfold layS layB; cases s j <;> cases t j <;> rfl
theorem lay_self (s : Nat → Bool) : layS 1 s s = emp := by
  funext j; unfold layS layB emp; cases s j <;> rfl
theorem lay_in1 (s t : Nat → Bool) : layS 1 (layS 2 s t) s = emp := by
  funext j; unfold layS layB emp; cases s j <;> cases t j <;> rfl
theorem lay_in2 (s t : Nat → Bool) : layS 1 (layS 2 s t) t = emp := by
  funext j; unfold layS layB emp; cases s j <;> cases t j <;> rfl
theorem with_s (s t r : Nat → Bool) (hr : layS 0 s t = r) (A B : Option Addr) (ca cb : Nat) (fr : List Chunk) (hrdA : Rds fr A (rc (rws s))) (hrdB : Rds fr B (rc (rws t))) :
    Does Try.prog 22 [.agg #[.slice A (rws s).length ca], .agg #[.slice B (rws t).length cb]] fr (fun _ : Option Addr × Nat => True) (fun x => .agg #[.slice x.1 (rws r).length x.2]) (fun x => own x.1 x.2 84 2 (rws r).length (rc (rws r)) :: fr) := by
  subst hr; exact with_c _ _ _ (rws_ok _) (rws_ok _) (rws_ok _) (hm_with s t) A B ca cb fr hrdA hrdB
theorem without_s (s t r : Nat → Bool) (hr : layS 1 s t = r) (A B : Option Addr) (ca cb : Nat) (fr : List Chunk) (hrdA : Rds fr A (rc (rws s))) (hrdB : Rds fr B (rc (rws t))) :
    Does Try.prog 24 [.agg #[.slice A (rws s).length ca], .agg #[.slice B (rws t).length cb]] fr (fun _ : Option Addr × Nat => True) (fun x => .agg #[.slice x.1 (rws r).length x.2]) (fun x => own x.1 x.2 84 2 (rws r).length (rc (rws r)) :: fr) := by
  subst hr; exact without_c _ _ _ (rws_ok _) (rws_ok _) (rws_ok _) (hm_without s t) A B ca cb fr hrdA hrdB
theorem both_s (s t r : Nat → Bool) (hr : layS 2 s t = r) (A B : Option Addr) (ca cb : Nat) (fr : List Chunk) (hrdA : Rds fr A (rc (rws s))) (hrdB : Rds fr B (rc (rws t))) :
    Does Try.prog 25 [.agg #[.slice A (rws s).length ca], .agg #[.slice B (rws t).length cb]] fr (fun _ : Option Addr × Nat => True) (fun x => .agg #[.slice x.1 (rws r).length x.2]) (fun x => own x.1 x.2 84 2 (rws r).length (rc (rws r)) :: fr) := by
  subst hr; exact both_c _ _ _ (rws_ok _) (rws_ok _) (rws_ok _) (hm_both 2 (by decide) (by decide) s t) A B ca cb fr hrdA hrdB
theorem within_s (s t r : Nat → Bool) (hr : layS 1 s t = r) (A B : Option Addr) (ca cb : Nat) (fr : List Chunk) (hrdA : Rds fr A (rc (rws s))) (hrdB : Rds fr B (rc (rws t))) :
    Does Try.prog 26 [.agg #[.slice A (rws s).length ca], .agg #[.slice B (rws t).length cb]] fr (fun _ : Unit => True) (fun _ => .bool (decide (((al r 1024).length : Int) = 0))) (fun _ => fr) := by
  subst hr; rw [← len_al]; exact within_c _ _ _ (rws_ok _) (rws_ok _) (rws_ok _) (hm_without s t) A B ca cb fr hrdA hrdB
theorem within_e (s t : Nat → Bool) (hr : layS 1 s t = emp) (A B : Option Addr) (ca cb : Nat) (fr : List Chunk) (hrdA : Rds fr A (rc (rws s))) (hrdB : Rds fr B (rc (rws t))) :
    Does Try.prog 26 [.agg #[.slice A (rws s).length ca], .agg #[.slice B (rws t).length cb]] fr (fun _ : Unit => True) (fun _ => .bool true) (fun _ => fr) := by
  have h := within_s s t emp hr A B ca cb fr hrdA hrdB
  rw [al_emp] at h
  exact h
theorem slen_e (A : Option Addr) (c : Nat) (fr : List Chunk) (hrd : Rds fr A (rc (rws emp))) : Does Try.prog 29 [.agg #[.slice A (rws emp).length c]] fr (fun _ : Unit => True) (fun _ => .int .i64 0) (fun _ => fr) := by
  have h := slen_s emp A c fr hrd
  rw [al_emp] at h
  exact h
theorem has_s (s : Nat → Bool) (A : Option Addr) (c : Nat) (n : Int) (fr : List Chunk) (hrd : Rds fr A (rc (rws s))) : Does Try.prog 21 [.agg #[.slice A (rws s).length c], .int .i64 n] fr (fun _ : Unit => True) (fun _ => .bool (inS s n)) (fun _ => fr) := by
  rw [← rws_has]; exact has_c _ (-1) (rws_sep s) A c n fr hrd (by have := (rws_ok s).len; omega)
theorem and_1023 : ∀ x : Fin 1024, bitv .and .i64 (x.val : Int) 1023 = (x.val : Int) := by decide +kernel
theorem and_in {n : Int} (h0 : 0 ≤ n) (h1 : n ≤ 1023) : bitv .and .i64 n 1023 = n := by
  have := and_1023 ⟨n.toNat, by omega⟩
  simp only at this
  rwa [Int.toNat_of_nonneg h0] at this
attribute [local irreducible] Eng.Hold Eng.Z Eng.S Eng.cells Eng.old Eng.own rc rcs at' hasB Sep lastTo push
attribute [local irreducible] cmpR lenN ofR en mg cu ilS rg nm bs pt al rr rws layS ofS Ds.cs msk msc dse kd emp inS
set_option maxHeartbeats 8000000 in
theorem spanBack (W : World) (A0 B0 : Option Addr) (c0 d0 : Nat) (D E : List Ds) (hrd0 : Rds [old W] A0 (D.flatMap Ds.cs)) (hrd1 : Rds [old W] B0 (E.flatMap Ds.cs)) (hx : D.length ≤ 9223372036854775807) (hx2 : E.length ≤ 9223372036854775807) :
    Does Try.prog 5 [.slice A0 D.length c0, .slice B0 E.length d0] [old W] (fun _ : Unit => True) (fun _ => .bool true) (fun _ => [old W]) := by
  intro w hw
  refine f_enter Try.func5 rfl Try.ntmps5 rfl hw ?_
  obtain ⟨s, hs⟩ : ∃ s, msc D = s := ⟨_, rfl⟩
  obtain ⟨t, ht⟩ : ∃ t, msc E = t := ⟨_, rfl⟩
  obtain ⟨i, hi⟩ : ∃ i, layS 2 s t = i := ⟨_, rfl⟩
  obtain ⟨p, hp⟩ : ∃ p, layS 1 s i = p := ⟨_, rfl⟩
  obtain ⟨q, hq⟩ : ∃ q, layS 1 s t = q := ⟨_, rfl⟩
  have h1 : layS 0 p i = s := by rw [← hp, ← hi]; exact lay_back1 s t
  have h2 : layS 0 q i = s := by rw [← hq, ← hi]; exact lay_back2 s t
  have h3 := lay_self s
  have h4 : layS 1 i s = emp := by rw [← hi]; exact lay_in1 s t
  have h5 : layS 1 i t = emp := by rw [← hi]; exact lay_in2 s t
  repeat' (first
   | ((refine z_isdst 12 ?_; refine o_calla Try.func19 rfl rfl rfl (smade_cs D s hs A0 c0 _ hrd0 hx) (by decide) fun x _ => ?_))
   | ((refine z_isdst 17 ?_; refine o_calla Try.func19 rfl rfl rfl (smade_cs E t ht B0 d0 _ (hrd1.sub (List.sublist_append_right [_, _, _] _)) hx2) (by decide) fun y _ => ?_))
   | ((refine z_isdst 22 ?_; refine o_calla Try.func25 rfl rfl rfl (both_s s t i hi _ _ _ _ _ (by first | exact own_rds 0 rfl | exact own_rds 1 rfl | exact own_rds 2 rfl | exact own_rds 3 rfl | exact own_rds 4 rfl | exact own_rds 5 rfl | exact own_rds 6 rfl | exact own_rds 7 rfl | exact own_rds 8 rfl | exact own_rds 9 rfl | exact own_rds 10 rfl | exact own_rds 11 rfl | exact own_rds 12 rfl | assumption) (by first | exact own_rds 0 rfl | exact own_rds 1 rfl | exact own_rds 2 rfl | exact own_rds 3 rfl | exact own_rds 4 rfl | exact own_rds 5 rfl | exact own_rds 6 rfl | exact own_rds 7 rfl | exact own_rds 8 rfl | exact own_rds 9 rfl | exact own_rds 10 rfl | exact own_rds 11 rfl | exact own_rds 12 rfl | assumption)) (by decide) fun z _ => ?_))
   | ((refine z_isdst 25 ?_; refine o_callx1 Try.func24 rfl rfl rfl (without_s s i p hp _ _ _ _ _ (by first | exact own_rds 0 rfl | exact own_rds 1 rfl | exact own_rds 2 rfl | exact own_rds 3 rfl | exact own_rds 4 rfl | exact own_rds 5 rfl | exact own_rds 6 rfl | exact own_rds 7 rfl | exact own_rds 8 rfl | exact own_rds 9 rfl | exact own_rds 10 rfl | exact own_rds 11 rfl | exact own_rds 12 rfl | assumption) (by first | exact own_rds 0 rfl | exact own_rds 1 rfl | exact own_rds 2 rfl | exact own_rds 3 rfl | exact own_rds 4 rfl | exact own_rds 5 rfl | exact own_rds 6 rfl | exact own_rds 7 rfl | exact own_rds 8 rfl | exact own_rds 9 rfl | exact own_rds 10 rfl | exact own_rds 11 rfl | exact own_rds 12 rfl | assumption)) (by decide) (by decide) fun u1 _ => ?_))
   | ((refine z_isdst 27 ?_; refine o_callx1 Try.func22 rfl rfl rfl (with_s p i s h1 _ _ _ _ _ (by first | exact own_rds 0 rfl | exact own_rds 1 rfl | exact own_rds 2 rfl | exact own_rds 3 rfl | exact own_rds 4 rfl | exact own_rds 5 rfl | exact own_rds 6 rfl | exact own_rds 7 rfl | exact own_rds 8 rfl | exact own_rds 9 rfl | exact own_rds 10 rfl | exact own_rds 11 rfl | exact own_rds 12 rfl | assumption) (by first | exact own_rds 0 rfl | exact own_rds 1 rfl | exact own_rds 2 rfl | exact own_rds 3 rfl | exact own_rds 4 rfl | exact own_rds 5 rfl | exact own_rds 6 rfl | exact own_rds 7 rfl | exact own_rds 8 rfl | exact own_rds 9 rfl | exact own_rds 10 rfl | exact own_rds 11 rfl | exact own_rds 12 rfl | assumption)) (by decide) (by decide) fun u2 _ => ?_))
   | ((refine z_isdst 29 ?_; refine o_callx0 Try.func20 rfl rfl rfl (ssetsame_c s _ _ _ (by first | exact own_rds 0 rfl | exact own_rds 1 rfl | exact own_rds 2 rfl | exact own_rds 3 rfl | exact own_rds 4 rfl | exact own_rds 5 rfl | exact own_rds 6 rfl | exact own_rds 7 rfl | exact own_rds 8 rfl | exact own_rds 9 rfl | exact own_rds 10 rfl | exact own_rds 11 rfl | exact own_rds 12 rfl | assumption)) (by decide) (by decide) ?_))
   | ((refine z_isdst 33 ?_; refine o_callx1 Try.func24 rfl rfl rfl (without_s s t q hq _ _ _ _ _ (by first | exact own_rds 0 rfl | exact own_rds 1 rfl | exact own_rds 2 rfl | exact own_rds 3 rfl | exact own_rds 4 rfl | exact own_rds 5 rfl | exact own_rds 6 rfl | exact own_rds 7 rfl | exact own_rds 8 rfl | exact own_rds 9 rfl | exact own_rds 10 rfl | exact own_rds 11 rfl | exact own_rds 12 rfl | assumption) (by first | exact own_rds 0 rfl | exact own_rds 1 rfl | exact own_rds 2 rfl | exact own_rds 3 rfl | exact own_rds 4 rfl | exact own_rds 5 rfl | exact own_rds 6 rfl | exact own_rds 7 rfl | exact own_rds 8 rfl | exact own_rds 9 rfl | exact own_rds 10 rfl | exact own_rds 11 rfl | exact own_rds 12 rfl | assumption)) (by decide) (by decide) fun u3 _ => ?_))
   | ((refine z_isdst 35 ?_; refine o_callx1 Try.func22 rfl rfl rfl (with_s q i s h2 _ _ _ _ _ (by first | exact own_rds 0 rfl | exact own_rds 1 rfl | exact own_rds 2 rfl | exact own_rds 3 rfl | exact own_rds 4 rfl | exact own_rds 5 rfl | exact own_rds 6 rfl | exact own_rds 7 rfl | exact own_rds 8 rfl | exact own_rds 9 rfl | exact own_rds 10 rfl | exact own_rds 11 rfl | exact own_rds 12 rfl | assumption) (by first | exact own_rds 0 rfl | exact own_rds 1 rfl | exact own_rds 2 rfl | exact own_rds 3 rfl | exact own_rds 4 rfl | exact own_rds 5 rfl | exact own_rds 6 rfl | exact own_rds 7 rfl | exact own_rds 8 rfl | exact own_rds 9 rfl | exact own_rds 10 rfl | exact own_rds 11 rfl | exact own_rds 12 rfl | assumption)) (by decide) (by decide) fun u4 _ => ?_))
   | ((refine z_isdst 37 ?_; refine o_callx0 Try.func20 rfl rfl rfl (ssetsame_c s _ _ _ (by first | exact own_rds 0 rfl | exact own_rds 1 rfl | exact own_rds 2 rfl | exact own_rds 3 rfl | exact own_rds 4 rfl | exact own_rds 5 rfl | exact own_rds 6 rfl | exact own_rds 7 rfl | exact own_rds 8 rfl | exact own_rds 9 rfl | exact own_rds 10 rfl | exact own_rds 11 rfl | exact own_rds 12 rfl | assumption)) (by decide) (by decide) ?_))
   | ((refine z_isdst 42 ?_; refine o_callx1 Try.func24 rfl rfl rfl (without_s s s emp h3 _ _ _ _ _ (by first | exact own_rds 0 rfl | exact own_rds 1 rfl | exact own_rds 2 rfl | exact own_rds 3 rfl | exact own_rds 4 rfl | exact own_rds 5 rfl | exact own_rds 6 rfl | exact own_rds 7 rfl | exact own_rds 8 rfl | exact own_rds 9 rfl | exact own_rds 10 rfl | exact own_rds 11 rfl | exact own_rds 12 rfl | assumption) (by first | exact own_rds 0 rfl | exact own_rds 1 rfl | exact own_rds 2 rfl | exact own_rds 3 rfl | exact own_rds 4 rfl | exact own_rds 5 rfl | exact own_rds 6 rfl | exact own_rds 7 rfl | exact own_rds 8 rfl | exact own_rds 9 rfl | exact own_rds 10 rfl | exact own_rds 11 rfl | exact own_rds 12 rfl | assumption)) (by decide) (by decide) fun u5 _ => ?_))
   | ((refine z_isdst 43 ?_; refine o_callx0 Try.func29 rfl rfl rfl (slen_e _ _ _ (by first | exact own_rds 0 rfl | exact own_rds 1 rfl | exact own_rds 2 rfl | exact own_rds 3 rfl | exact own_rds 4 rfl | exact own_rds 5 rfl | exact own_rds 6 rfl | exact own_rds 7 rfl | exact own_rds 8 rfl | exact own_rds 9 rfl | exact own_rds 10 rfl | exact own_rds 11 rfl | exact own_rds 12 rfl | assumption)) (by decide) (by decide) ?_))
   | ((refine z_isdst 49 ?_; refine o_callr rfl Try.func26 rfl rfl rfl (within_e i s h4 _ _ _ _ _ (by first | exact own_rds 0 rfl | exact own_rds 1 rfl | exact own_rds 2 rfl | exact own_rds 3 rfl | exact own_rds 4 rfl | exact own_rds 5 rfl | exact own_rds 6 rfl | exact own_rds 7 rfl | exact own_rds 8 rfl | exact own_rds 9 rfl | exact own_rds 10 rfl | exact own_rds 11 rfl | exact own_rds 12 rfl | assumption) (by first | exact own_rds 0 rfl | exact own_rds 1 rfl | exact own_rds 2 rfl | exact own_rds 3 rfl | exact own_rds 4 rfl | exact own_rds 5 rfl | exact own_rds 6 rfl | exact own_rds 7 rfl | exact own_rds 8 rfl | exact own_rds 9 rfl | exact own_rds 10 rfl | exact own_rds 11 rfl | exact own_rds 12 rfl | assumption)) (by decide) ?_))
   | ((refine z_isdst 54 ?_; refine o_callr rfl Try.func26 rfl rfl rfl (within_e i t h5 _ _ _ _ _ (by first | exact own_rds 0 rfl | exact own_rds 1 rfl | exact own_rds 2 rfl | exact own_rds 3 rfl | exact own_rds 4 rfl | exact own_rds 5 rfl | exact own_rds 6 rfl | exact own_rds 7 rfl | exact own_rds 8 rfl | exact own_rds 9 rfl | exact own_rds 10 rfl | exact own_rds 11 rfl | exact own_rds 12 rfl | assumption) (by first | exact own_rds 0 rfl | exact own_rds 1 rfl | exact own_rds 2 rfl | exact own_rds 3 rfl | exact own_rds 4 rfl | exact own_rds 5 rfl | exact own_rds 6 rfl | exact own_rds 7 rfl | exact own_rds 8 rfl | exact own_rds 9 rfl | exact own_rds 10 rfl | exact own_rds 11 rfl | exact own_rds 12 rfl | assumption)) (by decide) ?_))
   | (refine s_is ?_; first
   | (refine c_free0 ⟨[25, 27, 29, 33, 35, 37, 42, 43], []⟩ [0, 1, 3, 5, 2, 4, 6, 7, 8, 9, 11, 13, 10, 12, 14, 15, 16, 17, 18, 19, 20, 21, 22, 23, 24, 25, 26, 27, 28, 29, 30, 31, 32, 33, 34, 35, 36] (id := 4) mixed (by kernel_rfl) ?_)
   | (refine s_isret ?_; first
   | exact f_r1 rfl (res_t rfl) () trivial rfl (fun w h => h.sub (List.sublist_append_right [_, _, _, _, _, _, _, _, _, _, _, _, _] _)))
   | (refine s_isw ?_; first
   | refine c_seq ?_
   | refine c_block ?_
   | refine c_region ?_
   | refine c_mixed mixed (by kernel_rfl) ?_
   | refine c_skip ?_
   | refine c_ret ?_
   | refine c_exit ?_
   | (refine s_iscond ?_; first
   | (refine c_true rfl (by first | with_reducible rfl | with_reducible assumption | ((with_reducible refine decide_eq_true ?_); first | with_reducible rfl | with_reducible assumption | omega)) ?_)
   | (refine c_false rfl (by first | with_reducible rfl | with_reducible assumption | ((with_reducible refine decide_eq_false ?_); first | with_reducible assumption | omega)) ?_)
   | (refine c_true rfl (by first | (simp only [Bool.not_eq_true', decide_eq_false_iff_not]; omega) | (with_reducible assumption) | (rw [decide_eq_false] <;> (first | omega | with_reducible rfl)) | (rw [decide_eq_true] <;> (first | omega | with_reducible rfl)) | (simp; done) | (simp; omega)) ?_)
   | (refine c_false rfl (by first | (simp only [Bool.not_eq_false', decide_eq_true_eq]; omega) | (with_reducible assumption) | (rw [decide_eq_false] <;> (first | omega | with_reducible rfl)) | (rw [decide_eq_true] <;> (first | omega | with_reducible rfl)) | (simp; done) | (simp; omega)) ?_)
   | refine c_cond rfl (fun hc => ?_) (fun hc => ?_)
   | refine c_condb rfl (fun hc => ?_) (fun hc => ?_)))
   | refine x_then ?_
   | refine x_then_ret ?_
   | refine x_then_exit ?_
   | refine x_block _ ?_
   | refine x_block_ret _ ?_
   | refine x_block_exit _ ?_
   | refine x_block_past (by decide) ?_
   | refine z_tailm ?_)
   | (refine z_isg1 ?_; first
   | refine z_skipu (by decide) rfl rfl ?_
   | (refine z_want1 rfl rfl (by first | with_reducible rfl | with_reducible assumption | ((with_reducible refine decide_eq_true ?_); first | with_reducible rfl | with_reducible assumption | omega)) ?_)
   | (refine z_skip1 (by decide) rfl rfl (by first | with_reducible rfl | with_reducible assumption | ((with_reducible refine decide_eq_false ?_); first | with_reducible assumption | omega)) ?_)
   | (refine z_want1 rfl rfl (by first | (simp only [Bool.not_eq_true', decide_eq_false_iff_not]; omega) | (with_reducible assumption) | (rw [decide_eq_false] <;> (first | omega | with_reducible rfl)) | (rw [decide_eq_true] <;> (first | omega | with_reducible rfl)) | (simp; done) | (simp; omega)) ?_)
   | (refine z_skip1 (by decide) rfl rfl (by first | (simp only [Bool.not_eq_false', decide_eq_true_eq]; omega) | (with_reducible assumption) | (rw [decide_eq_false] <;> (first | omega | with_reducible rfl)) | (rw [decide_eq_true] <;> (first | omega | with_reducible rfl)) | (simp; done) | (simp; omega)) ?_)
   | refine z_guard1 (by decide) rfl rfl (fun hc => ?_) (fun hc => ?_)
   | refine z_guardb (by decide) rfl rfl (fun hc => ?_) (fun hc => ?_))
   | (refine z_isnil ?_; first
   | refine z_mono0n ?_
   | refine z_list ?_
   | refine z_mixed ?_
   | refine z_mono0 ?_
   | refine z_mono1 (by decide) fun g => ?_
   | refine z_mono2 (by decide) (by decide) fun g g' => ?_
   | refine z_mixedx ?_
   | refine z_quiet ?_)
   | (refine z_isop ?_; first
   | refine o_alloca (e := 47) (vs := [.slice none 0 0]) rfl (by kernel_rfl) (by decide) fun g => ?_
   | refine o_alloca (e := 49) (vs := bs (fun _ => false)) rfl (by kernel_rfl) (by decide) fun g => ?_
   | (refine z_isbin ?_; first
   | (refine z_isb .eql ?_; first
   | refine o_eq rfl rfl (by decide) ?_
   | refine o_beq tabOk rfl rfl rfl (by decide) ?_
   | refine o_peq tabOk rfl rfl (by decide) ?_))
   | (refine z_isload ?_; first
   | (refine z_ld1 tabOk rfl rfl ?_; first
   | refine o_loadm tabOk rfl rfl rfl (by repeat' (first | exact List.mem_cons_self | apply List.mem_cons_of_mem)) (by first | exact bs_at _ (by omega) | rfl | rfl) (by decide) ?_
   | refine o_loads tabOk (by first | exact own_rds 0 rfl | exact own_rds 1 rfl | exact own_rds 2 rfl | exact own_rds 3 rfl | exact own_rds 4 rfl | exact own_rds 5 rfl | exact own_rds 6 rfl | exact own_rds 7 rfl | exact own_rds 8 rfl | exact own_rds 9 rfl | exact own_rds 10 rfl | exact own_rds 11 rfl | exact own_rds 12 rfl | assumption) rfl rfl rfl (by first | exact bs_at _ (by omega) | rfl | rfl) (by decide) ?_)
   | (refine z_ldw tabOk rfl rfl ?_; first
   | (refine o_loadwm tabOk rfl rfl rfl (by repeat' (first | exact List.mem_cons_self | apply List.mem_cons_of_mem)) (by first | rfl | exact bs_len _ | (simp only [bs_len]; done) | rfl) (by decide) ?_)))
   | (refine z_isstore ?_; first
   | (refine z_stw rfl ?_; first
   | ((refine z_sti 0 rfl rfl ?_; refine o_storeb0 rfl tabOk rfl rfl rfl (by first | rfl | exact bs_len _ | (simp only [bs_len]; done) | rfl) (by first | rfl | exact bs_one _ | rfl) (by first | rfl | exact bs_len _ | (simp only [bs_len]; done) | rfl) ?_))
   | ((refine z_sti 1 rfl rfl ?_; refine o_storeb1 rfl tabOk rfl rfl rfl (by first | rfl | exact bs_len _ | (simp only [bs_len]; done) | rfl) (by first | rfl | exact bs_one _ | rfl) (by first | rfl | exact bs_len _ | (simp only [bs_len]; done) | rfl) ?_))
   | ((refine z_sti 2 rfl rfl ?_; refine o_storeb2 rfl tabOk rfl rfl rfl (by first | rfl | exact bs_len _ | (simp only [bs_len]; done) | rfl) (by first | rfl | exact bs_one _ | rfl) (by first | rfl | exact bs_len _ | (simp only [bs_len]; done) | rfl) ?_))
   | ((refine z_sti 3 rfl rfl ?_; refine o_storeb3 rfl tabOk rfl rfl rfl (by first | rfl | exact bs_len _ | (simp only [bs_len]; done) | rfl) (by first | rfl | exact bs_one _ | rfl) (by first | rfl | exact bs_len _ | (simp only [bs_len]; done) | rfl) ?_))
   | ((refine z_sti 4 rfl rfl ?_; refine o_storeb4 rfl tabOk rfl rfl rfl (by first | rfl | exact bs_len _ | (simp only [bs_len]; done) | rfl) (by first | rfl | exact bs_one _ | rfl) (by first | rfl | exact bs_len _ | (simp only [bs_len]; done) | rfl) ?_))
   | ((refine z_sti 5 rfl rfl ?_; refine o_storeb5 rfl tabOk rfl rfl rfl (by first | rfl | exact bs_len _ | (simp only [bs_len]; done) | rfl) (by first | rfl | exact bs_one _ | rfl) (by first | rfl | exact bs_len _ | (simp only [bs_len]; done) | rfl) ?_))
   | ((refine z_sti 6 rfl rfl ?_; refine o_storeb6 rfl tabOk rfl rfl rfl (by first | rfl | exact bs_len _ | (simp only [bs_len]; done) | rfl) (by first | rfl | exact bs_one _ | rfl) (by first | rfl | exact bs_len _ | (simp only [bs_len]; done) | rfl) ?_)))
   | (refine z_st1 rfl rfl ?_; first
   | refine o_store rfl tabOk rfl rfl rfl rfl rfl (by first | exact bs_at _ (by omega) | rfl | rfl) (by first | rfl) ?_
   | ((refine z_sti 1 rfl rfl ?_; refine o_store1 rfl tabOk rfl rfl rfl rfl rfl (by first | exact bs_at _ (by omega) | rfl | rfl) (by first | rfl) ?_))
   | ((refine z_sti 2 rfl rfl ?_; refine o_store2 rfl tabOk rfl rfl rfl rfl rfl (by first | exact bs_at _ (by omega) | rfl | rfl) (by first | rfl) ?_))
   | ((refine z_sti 3 rfl rfl ?_; refine o_store3 rfl tabOk rfl rfl rfl rfl rfl (by first | exact bs_at _ (by omega) | rfl | rfl) (by first | rfl) ?_))
   | ((refine z_sti 4 rfl rfl ?_; refine o_store4 rfl tabOk rfl rfl rfl rfl rfl (by first | exact bs_at _ (by omega) | rfl | rfl) (by first | rfl) ?_))
   | ((refine z_sti 5 rfl rfl ?_; refine o_store5 rfl tabOk rfl rfl rfl rfl rfl (by first | exact bs_at _ (by omega) | rfl | rfl) (by first | rfl) ?_))
   | ((refine z_sti 6 rfl rfl ?_; refine o_store6 rfl tabOk rfl rfl rfl rfl rfl (by first | exact bs_at _ (by omega) | rfl | rfl) (by first | rfl) ?_))))
   | (refine z_iscall ?_; first
   | ((refine z_iscallf 28 ?_; refine o_fn rfl Try.func28 rfl rfl rfl (sawake_p) (by decide) ?_)))
   | (refine z_ispick ?_; first
   | (refine o_pick1 rfl (by first | with_reducible rfl | with_reducible assumption | ((with_reducible refine decide_eq_true ?_); first | with_reducible rfl | with_reducible assumption | omega)) rfl (by decide) ?_)
   | (refine o_pick0 rfl (by first | with_reducible rfl | with_reducible assumption | ((with_reducible refine decide_eq_false ?_); first | with_reducible assumption | omega)) rfl (by decide) ?_)
   | (refine o_pick1 rfl (by first | (simp only [Bool.not_eq_true', decide_eq_false_iff_not]; omega) | (with_reducible assumption) | (rw [decide_eq_false] <;> (first | omega | with_reducible rfl)) | (rw [decide_eq_true] <;> (first | omega | with_reducible rfl)) | (simp; done) | (simp; omega)) rfl (by decide) ?_)
   | (refine o_pick0 rfl (by first | (simp only [Bool.not_eq_false', decide_eq_true_eq]; omega) | (with_reducible assumption) | (rw [decide_eq_false] <;> (first | omega | with_reducible rfl)) | (rw [decide_eq_true] <;> (first | omega | with_reducible rfl)) | (simp; done) | (simp; omega)) rfl (by decide) ?_))
   | refine o_move rfl (by decide) ?_
   | refine o_assign rfl (by decide) ?_
   | refine o_nil rfl (by decide) ?_
   | refine o_extract rfl rfl (by decide) ?_
   | refine o_not rfl (by decide) ?_
   | refine o_field0 tabOk rfl rfl rfl rfl rfl (by decide) ?_
   | refine o_field tabOk rfl rfl rfl rfl rfl (by decide) ?_
   | refine o_conv tabOk rfl rfl rfl (by decide) ?_))
end Go.Proofs.Ytjjhlkjnjbagfaa
