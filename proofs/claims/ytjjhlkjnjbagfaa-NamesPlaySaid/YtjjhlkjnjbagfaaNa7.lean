/-
The law of the plays of names.
-/
import Derived.Test.YtjjhlkjnjbagfaaNa6
namespace Go.Proofs.Ytjjhlkjnjbagfaa
set_option linter.unusedVariables false
set_option linter.unusedSimpArgs false
open Eng
theorem made_cL (D : List Dn) (L : List Int) (hM : mkc D = L) (A0 : Option Addr) (c0 : Nat) (fr : List Chunk) (hrd0 : Rds fr A0 (D.flatMap Dn.cs)) (hx : D.length ≤ 9223372036854775807) :
    Does Try.prog 10 [.slice A0 D.length c0] fr (fun _ : Option Addr × Nat × Option Addr × Nat => True) (fun x => .tuple #[.agg #[.slice x.1 L.length x.2.1], .slice x.2.2.1 L.length x.2.2.2]) (fun x => own x.1 x.2.1 3 1 L.length (il L) :: own x.2.2.1 x.2.2.2 3 1 L.length (il L) :: fr) := by
  subst hM; exact made_c D A0 c0 fr hrd0 hx
/-- Find's first result. -/
def fv (L : List Int) (n : Int) : Int := if fd L n < 0 then 0 else fd L n
theorem find_cv (L : List Int) (A : Option Addr) (c : Nat) (n : Int) (fr : List Chunk) (hrd : Rds fr A (il L)) (hx : L.length ≤ 9223372036854775807) : Does Try.prog 16 [.agg #[.slice A L.length c], .int .i64 n] fr (fun _ : Unit => True) (fun _ => .tuple #[.int .i64 (fv L n), .bool (decide (0 ≤ fd L n))]) (fun _ => fr) := find_c L A c n fr hrd hx
attribute [local irreducible] Eng.Hold Eng.Z Eng.S Eng.cells Eng.old Eng.own il fi gt addL drL nmN
attribute [local irreducible] ix fd gv fv Dn.cs mk dee mkc
set_option maxHeartbeats 8000000 in
theorem namesPlay (W : World) (A0 : Option Addr) (c0 : Nat) (D : List Dn) (k n : Int) (hrd0 : Rds [old W] A0 (D.flatMap Dn.cs)) (hx : D.length ≤ 9223372036854775807) :
    Does Try.prog 3 [.slice A0 D.length c0, .agg #[.int .i64 k, .int .i64 n]] [old W] (fun _ : Unit => True) (fun _ => .bool true) (fun _ => [old W]) := by
  intro w hw
  refine f_enter Try.func3 rfl Try.ntmps3 rfl hw ?_
  obtain ⟨hL, hl⟩ := mkc_ok D
  generalize hM : mkc D = L at *
  have e0 : (!(decide (0 ≤ fd L n) == decide (0 ≤ fd L n))) = false := by simp
  have e1 : ∀ q : Nat, (!(true == decide (0 ≤ (q : Int)))) = false := fun q => by simp
  have hff : (fd L n < 0 ∧ fv L n = 0) ∨ (¬ (fd L n < 0) ∧ fv L n = fd L n ∧ 0 ≤ fd L n) := by
    by_cases h : fd L n < 0
    · exact .inl ⟨h, by unfold fv; rw [if_pos h]⟩
    · exact .inr ⟨h, by unfold fv; rw [if_neg h], by omega⟩
  cases ha : addL L n with
  | some p =>
    obtain ⟨La, q⟩ := p
    have hLa := hL.add ha
    have hla := (add_len ha (by omega)).2.1
    have e2 := e1 q
    cases hd : drL L n with
    | some Ld =>
      have hLd := hL.dr hd
      have hld := dr_len hd
      rcases hff with ⟨hf1, hf2⟩ | ⟨hf1, hf2, hf3⟩
      · skip
        repeat' (first
         | (refine s_is ?_; first
         | (refine s_isret ?_; first
         | exact f_r1 rfl (res_t rfl) () trivial rfl (fun w h => ((h.sel 11 [10, 0, 1, 2, 3, 4, 5, 6, 7, 8, 9] (by decide)).mask [true, false, false, false, false, false, false, false, false, false, false])))
         | (refine s_isw ?_; first
         | refine c_seq ?_
         | refine c_block ?_
         | refine c_region ?_
         | refine c_mixed mixed (by kernel_rfl) ?_
         | refine c_skip ?_
         | refine c_ret ?_
         | refine c_exit ?_
         | (refine s_iscond ?_; first
         | (refine c_true rfl (by first | with_reducible rfl | with_reducible assumption | ((with_reducible refine decide_eq_true ?_); first | with_reducible rfl | with_reducible assumption | omega)) ?_)
         | (refine c_false rfl (by first | with_reducible rfl | with_reducible assumption | ((with_reducible refine decide_eq_false ?_); first | with_reducible assumption | omega)) ?_)
         | (refine c_true rfl (by first | (simp only [Bool.not_eq_true', decide_eq_false_iff_not]; omega) | (with_reducible assumption) | (rw [decide_eq_false] <;> (first | omega | with_reducible rfl)) | (rw [decide_eq_true] <;> (first | omega | with_reducible rfl)) | (simp; done) | (simp; omega)) ?_)
         | (refine c_false rfl (by first | (simp only [Bool.not_eq_false', decide_eq_true_eq]; omega) | (with_reducible assumption) | (rw [decide_eq_false] <;> (first | omega | with_reducible rfl)) | (rw [decide_eq_true] <;> (first | omega | with_reducible rfl)) | (simp; done) | (simp; omega)) ?_)
         | refine c_cond rfl (fun hc => ?_) (fun hc => ?_)
         | refine c_condb rfl (fun hc => ?_) (fun hc => ?_)))
         | refine x_then ?_
         | refine x_then_ret ?_
         | refine x_then_exit ?_
         | refine x_block _ ?_
         | refine x_block_ret _ ?_
         | refine x_block_exit _ ?_
         | refine x_block_past (by decide) ?_
         | refine z_tailm ?_)
         | (refine z_isg1 ?_; first
         | refine z_skipu (by decide) rfl rfl ?_
         | (refine z_want1 rfl rfl (by first | with_reducible rfl | with_reducible assumption | ((with_reducible refine decide_eq_true ?_); first | with_reducible rfl | with_reducible assumption | omega)) ?_)
         | (refine z_skip1 (by decide) rfl rfl (by first | with_reducible rfl | with_reducible assumption | ((with_reducible refine decide_eq_false ?_); first | with_reducible assumption | omega)) ?_)
         | (refine z_want1 rfl rfl (by first | (simp only [Bool.not_eq_true', decide_eq_false_iff_not]; omega) | (with_reducible assumption) | (rw [decide_eq_false] <;> (first | omega | with_reducible rfl)) | (rw [decide_eq_true] <;> (first | omega | with_reducible rfl)) | (simp; done) | (simp; omega)) ?_)
         | (refine z_skip1 (by decide) rfl rfl (by first | (simp only [Bool.not_eq_false', decide_eq_true_eq]; omega) | (with_reducible assumption) | (rw [decide_eq_false] <;> (first | omega | with_reducible rfl)) | (rw [decide_eq_true] <;> (first | omega | with_reducible rfl)) | (simp; done) | (simp; omega)) ?_)
         | refine z_guard1 (by decide) rfl rfl (fun hc => ?_) (fun hc => ?_)
         | refine z_guardb (by decide) rfl rfl (fun hc => ?_) (fun hc => ?_))
         | (refine z_isg0 ?_; first
         | refine z_skipu (by decide) rfl rfl ?_
         | (refine z_want0 rfl rfl (by first | with_reducible rfl | with_reducible assumption | ((with_reducible refine decide_eq_false ?_); first | with_reducible assumption | omega)) ?_)
         | (refine z_skip0 (by decide) rfl rfl (by first | with_reducible rfl | with_reducible assumption | ((with_reducible refine decide_eq_true ?_); first | with_reducible rfl | with_reducible assumption | omega)) ?_)
         | (refine z_want0 rfl rfl (by first | (simp only [Bool.not_eq_false', decide_eq_true_eq]; omega) | (with_reducible assumption) | (rw [decide_eq_false] <;> (first | omega | with_reducible rfl)) | (rw [decide_eq_true] <;> (first | omega | with_reducible rfl)) | (simp; done) | (simp; omega)) ?_)
         | (refine z_skip0 (by decide) rfl rfl (by first | (simp only [Bool.not_eq_true', decide_eq_false_iff_not]; omega) | (with_reducible assumption) | (rw [decide_eq_false] <;> (first | omega | with_reducible rfl)) | (rw [decide_eq_true] <;> (first | omega | with_reducible rfl)) | (simp; done) | (simp; omega)) ?_)
         | refine z_guard0 (by decide) rfl rfl (fun hc => ?_) (fun hc => ?_)
         | refine z_guardb (by decide) rfl rfl (fun hc => ?_) (fun hc => ?_))
         | (refine z_isnil ?_; first
         | refine z_list ?_
         | refine z_mixed ?_
         | refine z_mono0 ?_
         | refine z_mono1 (by decide) fun g => ?_
         | refine z_mono2 (by decide) (by decide) fun g g' => ?_
         | refine z_mixedx ?_
         | refine z_quiet ?_)
         | (refine z_isop ?_; first
         | refine o_alloca (e := 27) (vs := [.slice none 0 0]) rfl (by kernel_rfl) (by decide) fun g => ?_
         | refine o_boxa (vs := [.int .i64 k, .int .i64 n]) rfl rfl (by decide) fun g3 => ?_
         | (refine z_isbin ?_; first
         | (refine z_isb .eql ?_; first
         | refine o_eq rfl rfl (by decide) ?_
         | refine o_beq tabOk rfl rfl rfl (by decide) ?_
         | refine o_peq tabOk rfl rfl (by decide) ?_)
         | (refine z_isb .neq ?_; first
         | refine o_ne rfl rfl (by decide) ?_
         | refine o_bne tabOk rfl rfl rfl (by decide) ?_
         | refine o_pne tabOk rfl rfl (by decide) ?_)
         | (refine z_isb .geq ?_; first
         | refine o_ge rfl rfl (by decide) ?_))
         | (refine z_isload ?_; first
         | (refine z_ld1 tabOk rfl rfl ?_; first
         | refine o_loadm tabOk rfl rfl rfl (by repeat' (first | exact List.mem_cons_self | apply List.mem_cons_of_mem)) (by first | exact il_at _ (by omega) | rfl | rfl) (by decide) ?_
         | refine o_loads tabOk (by first | exact own_rds 0 rfl | exact own_rds 1 rfl | exact own_rds 2 rfl | exact own_rds 3 rfl | exact own_rds 4 rfl | exact own_rds 5 rfl | exact own_rds 6 rfl | exact own_rds 7 rfl | exact own_rds 8 rfl | exact own_rds 9 rfl | assumption) rfl rfl rfl (by first | exact il_at _ (by omega) | rfl | rfl) (by decide) ?_)
         | (refine z_ldw tabOk rfl rfl ?_; first
         | refine o_loadwm tabOk rfl rfl rfl (by repeat' (first | exact List.mem_cons_self | apply List.mem_cons_of_mem)) (by first | rfl | rfl) (by decide) ?_))
         | (refine z_isstore ?_; first
         | (refine z_stw rfl ?_; first
         | ((refine z_sti 0 rfl rfl ?_; refine o_storeb0 rfl tabOk rfl rfl rfl (by first | rfl | rfl) (by first | rfl | rfl) (by first | rfl | rfl) ?_))
         | ((refine z_sti 1 rfl rfl ?_; refine o_storeb1 rfl tabOk rfl rfl rfl (by first | rfl | rfl) (by first | rfl | rfl) (by first | rfl | rfl) ?_))
         | ((refine z_sti 2 rfl rfl ?_; refine o_storeb2 rfl tabOk rfl rfl rfl (by first | rfl | rfl) (by first | rfl | rfl) (by first | rfl | rfl) ?_))
         | ((refine z_sti 3 rfl rfl ?_; refine o_storeb3 rfl tabOk rfl rfl rfl (by first | rfl | rfl) (by first | rfl | rfl) (by first | rfl | rfl) ?_))
         | ((refine z_sti 4 rfl rfl ?_; refine o_storeb4 rfl tabOk rfl rfl rfl (by first | rfl | rfl) (by first | rfl | rfl) (by first | rfl | rfl) ?_))
         | ((refine z_sti 5 rfl rfl ?_; refine o_storeb5 rfl tabOk rfl rfl rfl (by first | rfl | rfl) (by first | rfl | rfl) (by first | rfl | rfl) ?_))
         | ((refine z_sti 6 rfl rfl ?_; refine o_storeb6 rfl tabOk rfl rfl rfl (by first | rfl | rfl) (by first | rfl | rfl) (by first | rfl | rfl) ?_)))
         | (refine z_st1 rfl rfl ?_; first
         | refine o_store rfl tabOk rfl rfl rfl rfl rfl (by first | exact il_at _ (by omega) | rfl | rfl) (by first | rfl) ?_
         | ((refine z_sti 1 rfl rfl ?_; refine o_store1 rfl tabOk rfl rfl rfl rfl rfl (by first | exact il_at _ (by omega) | rfl | rfl) (by first | rfl) ?_))
         | ((refine z_sti 2 rfl rfl ?_; refine o_store2 rfl tabOk rfl rfl rfl rfl rfl (by first | exact il_at _ (by omega) | rfl | rfl) (by first | rfl) ?_))
         | ((refine z_sti 3 rfl rfl ?_; refine o_store3 rfl tabOk rfl rfl rfl rfl rfl (by first | exact il_at _ (by omega) | rfl | rfl) (by first | rfl) ?_))
         | ((refine z_sti 4 rfl rfl ?_; refine o_store4 rfl tabOk rfl rfl rfl rfl rfl (by first | exact il_at _ (by omega) | rfl | rfl) (by first | rfl) ?_))
         | ((refine z_sti 5 rfl rfl ?_; refine o_store5 rfl tabOk rfl rfl rfl rfl rfl (by first | exact il_at _ (by omega) | rfl | rfl) (by first | rfl) ?_))
         | ((refine z_sti 6 rfl rfl ?_; refine o_store6 rfl tabOk rfl rfl rfl rfl rfl (by first | exact il_at _ (by omega) | rfl | rfl) (by first | rfl) ?_))))
         | (refine z_iscall ?_; first
         | ((refine z_iscallf 11 ?_; refine z_isdst 45 ?_; refine o_callr rfl Try.func11 rfl rfl rfl (nsame_c La hLa _ _ _ _ _ (by first | exact own_rds 0 rfl | exact own_rds 1 rfl | exact own_rds 2 rfl | exact own_rds 3 rfl | exact own_rds 4 rfl | exact own_rds 5 rfl | exact own_rds 6 rfl | exact own_rds 7 rfl | exact own_rds 8 rfl | exact own_rds 9 rfl | assumption) (by first | exact own_rds 0 rfl | exact own_rds 1 rfl | exact own_rds 2 rfl | exact own_rds 3 rfl | exact own_rds 4 rfl | exact own_rds 5 rfl | exact own_rds 6 rfl | exact own_rds 7 rfl | exact own_rds 8 rfl | exact own_rds 9 rfl | assumption) (by omega)) (by decide) ?_))
         | ((refine z_iscallf 11 ?_; refine z_isdst 116 ?_; refine o_callr rfl Try.func11 rfl rfl rfl (nsame_c Ld hLd _ _ _ _ _ (by first | exact own_rds 0 rfl | exact own_rds 1 rfl | exact own_rds 2 rfl | exact own_rds 3 rfl | exact own_rds 4 rfl | exact own_rds 5 rfl | exact own_rds 6 rfl | exact own_rds 7 rfl | exact own_rds 8 rfl | exact own_rds 9 rfl | assumption) (by first | exact own_rds 0 rfl | exact own_rds 1 rfl | exact own_rds 2 rfl | exact own_rds 3 rfl | exact own_rds 4 rfl | exact own_rds 5 rfl | exact own_rds 6 rfl | exact own_rds 7 rfl | exact own_rds 8 rfl | exact own_rds 9 rfl | assumption) (by omega)) (by decide) ?_))
         | ((refine z_iscallf 18 ?_; refine o_fn rfl Try.func18 rfl rfl rfl (nawake_p) (by decide) ?_))
         | ((refine z_iscallf 10 ?_; refine o_calla Try.func10 rfl rfl rfl (made_cL D L hM A0 c0 _ (Rds.cons _ hrd0) hx) (by decide) fun x _ => ?_))
         | ((refine z_iscallf 11 ?_; refine z_isdst 26 ?_; refine o_callr rfl Try.func11 rfl rfl rfl (nsame_c L hL _ _ _ _ _ (by first | exact own_rds 0 rfl | exact own_rds 1 rfl | exact own_rds 2 rfl | exact own_rds 3 rfl | exact own_rds 4 rfl | exact own_rds 5 rfl | exact own_rds 6 rfl | exact own_rds 7 rfl | exact own_rds 8 rfl | exact own_rds 9 rfl | assumption) (by first | exact own_rds 0 rfl | exact own_rds 1 rfl | exact own_rds 2 rfl | exact own_rds 3 rfl | exact own_rds 4 rfl | exact own_rds 5 rfl | exact own_rds 6 rfl | exact own_rds 7 rfl | exact own_rds 8 rfl | exact own_rds 9 rfl | assumption) (by omega)) (by decide) ?_))
         | ((refine z_iscallf 11 ?_; refine z_isdst 125 ?_; refine o_callr rfl Try.func11 rfl rfl rfl (nsame_c L hL _ _ _ _ _ (by first | exact own_rds 0 rfl | exact own_rds 1 rfl | exact own_rds 2 rfl | exact own_rds 3 rfl | exact own_rds 4 rfl | exact own_rds 5 rfl | exact own_rds 6 rfl | exact own_rds 7 rfl | exact own_rds 8 rfl | exact own_rds 9 rfl | assumption) (by first | exact own_rds 0 rfl | exact own_rds 1 rfl | exact own_rds 2 rfl | exact own_rds 3 rfl | exact own_rds 4 rfl | exact own_rds 5 rfl | exact own_rds 6 rfl | exact own_rds 7 rfl | exact own_rds 8 rfl | exact own_rds 9 rfl | assumption) (by omega)) (by decide) ?_))
         | ((refine z_iscallf 12 ?_; first | refine o_calla Try.func12 rfl rfl rfl (add_yes L La q _ _ _ _ (by first | exact own_rds 0 rfl | exact own_rds 1 rfl | exact own_rds 2 rfl | exact own_rds 3 rfl | exact own_rds 4 rfl | exact own_rds 5 rfl | exact own_rds 6 rfl | exact own_rds 7 rfl | exact own_rds 8 rfl | exact own_rds 9 rfl | assumption) (by omega) ha) (by decide) fun u _ => ?_ | refine o_callr rfl Try.func12 rfl rfl rfl (add_no L _ _ _ _ (by first | exact own_rds 0 rfl | exact own_rds 1 rfl | exact own_rds 2 rfl | exact own_rds 3 rfl | exact own_rds 4 rfl | exact own_rds 5 rfl | exact own_rds 6 rfl | exact own_rds 7 rfl | exact own_rds 8 rfl | exact own_rds 9 rfl | assumption) (by omega) ha) (by decide) ?_))
         | ((refine z_iscallf 13 ?_; first | refine o_calla Try.func13 rfl rfl rfl (radd_yes L La q hL _ _ _ _ (by first | exact own_rds 0 rfl | exact own_rds 1 rfl | exact own_rds 2 rfl | exact own_rds 3 rfl | exact own_rds 4 rfl | exact own_rds 5 rfl | exact own_rds 6 rfl | exact own_rds 7 rfl | exact own_rds 8 rfl | exact own_rds 9 rfl | assumption) (by omega) ha) (by decide) fun u2 _ => ?_ | refine o_callr rfl Try.func13 rfl rfl rfl (radd_no L hL _ _ _ _ (by first | exact own_rds 0 rfl | exact own_rds 1 rfl | exact own_rds 2 rfl | exact own_rds 3 rfl | exact own_rds 4 rfl | exact own_rds 5 rfl | exact own_rds 6 rfl | exact own_rds 7 rfl | exact own_rds 8 rfl | exact own_rds 9 rfl | assumption) (by omega) ha) (by decide) ?_))
         | ((refine z_iscallf 14 ?_; first | refine o_calla Try.func14 rfl rfl rfl (drop_yes L Ld hL _ _ _ _ (by first | exact own_rds 0 rfl | exact own_rds 1 rfl | exact own_rds 2 rfl | exact own_rds 3 rfl | exact own_rds 4 rfl | exact own_rds 5 rfl | exact own_rds 6 rfl | exact own_rds 7 rfl | exact own_rds 8 rfl | exact own_rds 9 rfl | assumption) (by omega) hd) (by decide) fun v _ => ?_ | refine o_callr rfl Try.func14 rfl rfl rfl (drop_no L hL _ _ _ _ (by first | exact own_rds 0 rfl | exact own_rds 1 rfl | exact own_rds 2 rfl | exact own_rds 3 rfl | exact own_rds 4 rfl | exact own_rds 5 rfl | exact own_rds 6 rfl | exact own_rds 7 rfl | exact own_rds 8 rfl | exact own_rds 9 rfl | assumption) (by omega) hd) (by decide) ?_))
         | ((refine z_iscallf 15 ?_; first | refine o_calla Try.func15 rfl rfl rfl (rdrop_yes L Ld _ _ _ _ (by first | exact own_rds 0 rfl | exact own_rds 1 rfl | exact own_rds 2 rfl | exact own_rds 3 rfl | exact own_rds 4 rfl | exact own_rds 5 rfl | exact own_rds 6 rfl | exact own_rds 7 rfl | exact own_rds 8 rfl | exact own_rds 9 rfl | assumption) (by omega) hd) (by decide) fun v2 _ => ?_ | refine o_callr rfl Try.func15 rfl rfl rfl (rdrop_no L _ _ _ _ (by first | exact own_rds 0 rfl | exact own_rds 1 rfl | exact own_rds 2 rfl | exact own_rds 3 rfl | exact own_rds 4 rfl | exact own_rds 5 rfl | exact own_rds 6 rfl | exact own_rds 7 rfl | exact own_rds 8 rfl | exact own_rds 9 rfl | assumption) (by omega) hd) (by decide) ?_))
         | ((refine z_iscallf 16 ?_; refine o_callr rfl Try.func16 rfl rfl rfl (find_cv L _ _ _ _ (by first | exact own_rds 0 rfl | exact own_rds 1 rfl | exact own_rds 2 rfl | exact own_rds 3 rfl | exact own_rds 4 rfl | exact own_rds 5 rfl | exact own_rds 6 rfl | exact own_rds 7 rfl | exact own_rds 8 rfl | exact own_rds 9 rfl | assumption) (by omega)) (by decide) ?_))
         | ((refine z_iscallf 17 ?_; refine o_callr rfl Try.func17 rfl rfl rfl (rfind_c L _ _ _ _ (by first | exact own_rds 0 rfl | exact own_rds 1 rfl | exact own_rds 2 rfl | exact own_rds 3 rfl | exact own_rds 4 rfl | exact own_rds 5 rfl | exact own_rds 6 rfl | exact own_rds 7 rfl | exact own_rds 8 rfl | exact own_rds 9 rfl | assumption) (by omega)) (by decide) ?_)))
         | (refine z_ispick ?_; first
         | (refine o_pick1 rfl (by first | with_reducible rfl | with_reducible assumption | ((with_reducible refine decide_eq_true ?_); first | with_reducible rfl | with_reducible assumption | omega)) rfl (by decide) ?_)
         | (refine o_pick0 rfl (by first | with_reducible rfl | with_reducible assumption | ((with_reducible refine decide_eq_false ?_); first | with_reducible assumption | omega)) rfl (by decide) ?_)
         | (refine o_pick1 rfl (by first | (simp only [Bool.not_eq_true', decide_eq_false_iff_not]; omega) | (with_reducible assumption) | (rw [decide_eq_false] <;> (first | omega | with_reducible rfl)) | (rw [decide_eq_true] <;> (first | omega | with_reducible rfl)) | (simp; done) | (simp; omega)) rfl (by decide) ?_)
         | (refine o_pick0 rfl (by first | (simp only [Bool.not_eq_false', decide_eq_true_eq]; omega) | (with_reducible assumption) | (rw [decide_eq_false] <;> (first | omega | with_reducible rfl)) | (rw [decide_eq_true] <;> (first | omega | with_reducible rfl)) | (simp; done) | (simp; omega)) rfl (by decide) ?_))
         | refine o_move rfl (by decide) ?_
         | refine o_assign rfl (by decide) ?_
         | refine o_nil rfl (by decide) ?_
         | refine o_extract rfl rfl (by decide) ?_
         | refine o_not rfl (by decide) ?_
         | refine o_field0 tabOk rfl rfl rfl rfl rfl (by decide) ?_
         | refine o_field tabOk rfl rfl rfl rfl rfl (by decide) ?_
         | refine o_conv tabOk rfl rfl rfl (by decide) ?_))
      · skip
        repeat' (first
         | (refine s_is ?_; first
         | (refine s_isret ?_; first
         | exact f_r1 rfl (res_t rfl) () trivial rfl (fun w h => ((h.sel 11 [10, 0, 1, 2, 3, 4, 5, 6, 7, 8, 9] (by decide)).mask [true, false, false, false, false, false, false, false, false, false, false])))
         | (refine s_isw ?_; first
         | refine c_seq ?_
         | refine c_block ?_
         | refine c_region ?_
         | refine c_mixed mixed (by kernel_rfl) ?_
         | refine c_skip ?_
         | refine c_ret ?_
         | refine c_exit ?_
         | (refine s_iscond ?_; first
         | (refine c_true rfl (by first | with_reducible rfl | with_reducible assumption | ((with_reducible refine decide_eq_true ?_); first | with_reducible rfl | with_reducible assumption | omega)) ?_)
         | (refine c_false rfl (by first | with_reducible rfl | with_reducible assumption | ((with_reducible refine decide_eq_false ?_); first | with_reducible assumption | omega)) ?_)
         | (refine c_true rfl (by first | (simp only [Bool.not_eq_true', decide_eq_false_iff_not]; omega) | (with_reducible assumption) | (rw [decide_eq_false] <;> (first | omega | with_reducible rfl)) | (rw [decide_eq_true] <;> (first | omega | with_reducible rfl)) | (simp; done) | (simp; omega)) ?_)
         | (refine c_false rfl (by first | (simp only [Bool.not_eq_false', decide_eq_true_eq]; omega) | (with_reducible assumption) | (rw [decide_eq_false] <;> (first | omega | with_reducible rfl)) | (rw [decide_eq_true] <;> (first | omega | with_reducible rfl)) | (simp; done) | (simp; omega)) ?_)
         | refine c_cond rfl (fun hc => ?_) (fun hc => ?_)
         | refine c_condb rfl (fun hc => ?_) (fun hc => ?_)))
         | refine x_then ?_
         | refine x_then_ret ?_
         | refine x_then_exit ?_
         | refine x_block _ ?_
         | refine x_block_ret _ ?_
         | refine x_block_exit _ ?_
         | refine x_block_past (by decide) ?_
         | refine z_tailm ?_)
         | (refine z_isg1 ?_; first
         | refine z_skipu (by decide) rfl rfl ?_
         | (refine z_want1 rfl rfl (by first | with_reducible rfl | with_reducible assumption | ((with_reducible refine decide_eq_true ?_); first | with_reducible rfl | with_reducible assumption | omega)) ?_)
         | (refine z_skip1 (by decide) rfl rfl (by first | with_reducible rfl | with_reducible assumption | ((with_reducible refine decide_eq_false ?_); first | with_reducible assumption | omega)) ?_)
         | (refine z_want1 rfl rfl (by first | (simp only [Bool.not_eq_true', decide_eq_false_iff_not]; omega) | (with_reducible assumption) | (rw [decide_eq_false] <;> (first | omega | with_reducible rfl)) | (rw [decide_eq_true] <;> (first | omega | with_reducible rfl)) | (simp; done) | (simp; omega)) ?_)
         | (refine z_skip1 (by decide) rfl rfl (by first | (simp only [Bool.not_eq_false', decide_eq_true_eq]; omega) | (with_reducible assumption) | (rw [decide_eq_false] <;> (first | omega | with_reducible rfl)) | (rw [decide_eq_true] <;> (first | omega | with_reducible rfl)) | (simp; done) | (simp; omega)) ?_)
         | refine z_guard1 (by decide) rfl rfl (fun hc => ?_) (fun hc => ?_)
         | refine z_guardb (by decide) rfl rfl (fun hc => ?_) (fun hc => ?_))
         | (refine z_isg0 ?_; first
         | refine z_skipu (by decide) rfl rfl ?_
         | (refine z_want0 rfl rfl (by first | with_reducible rfl | with_reducible assumption | ((with_reducible refine decide_eq_false ?_); first | with_reducible assumption | omega)) ?_)
         | (refine z_skip0 (by decide) rfl rfl (by first | with_reducible rfl | with_reducible assumption | ((with_reducible refine decide_eq_true ?_); first | with_reducible rfl | with_reducible assumption | omega)) ?_)
         | (refine z_want0 rfl rfl (by first | (simp only [Bool.not_eq_false', decide_eq_true_eq]; omega) | (with_reducible assumption) | (rw [decide_eq_false] <;> (first | omega | with_reducible rfl)) | (rw [decide_eq_true] <;> (first | omega | with_reducible rfl)) | (simp; done) | (simp; omega)) ?_)
         | (refine z_skip0 (by decide) rfl rfl (by first | (simp only [Bool.not_eq_true', decide_eq_false_iff_not]; omega) | (with_reducible assumption) | (rw [decide_eq_false] <;> (first | omega | with_reducible rfl)) | (rw [decide_eq_true] <;> (first | omega | with_reducible rfl)) | (simp; done) | (simp; omega)) ?_)
         | refine z_guard0 (by decide) rfl rfl (fun hc => ?_) (fun hc => ?_)
         | refine z_guardb (by decide) rfl rfl (fun hc => ?_) (fun hc => ?_))
         | (refine z_isnil ?_; first
         | refine z_list ?_
         | refine z_mixed ?_
         | refine z_mono0 ?_
         | refine z_mono1 (by decide) fun g => ?_
         | refine z_mono2 (by decide) (by decide) fun g g' => ?_
         | refine z_mixedx ?_
         | refine z_quiet ?_)
         | (refine z_isop ?_; first
         | refine o_alloca (e := 27) (vs := [.slice none 0 0]) rfl (by kernel_rfl) (by decide) fun g => ?_
         | refine o_boxa (vs := [.int .i64 k, .int .i64 n]) rfl rfl (by decide) fun g3 => ?_
         | (refine z_isbin ?_; first
         | (refine z_isb .eql ?_; first
         | refine o_eq rfl rfl (by decide) ?_
         | refine o_beq tabOk rfl rfl rfl (by decide) ?_
         | refine o_peq tabOk rfl rfl (by decide) ?_)
         | (refine z_isb .neq ?_; first
         | refine o_ne rfl rfl (by decide) ?_
         | refine o_bne tabOk rfl rfl rfl (by decide) ?_
         | refine o_pne tabOk rfl rfl (by decide) ?_)
         | (refine z_isb .geq ?_; first
         | refine o_ge rfl rfl (by decide) ?_))
         | (refine z_isload ?_; first
         | (refine z_ld1 tabOk rfl rfl ?_; first
         | refine o_loadm tabOk rfl rfl rfl (by repeat' (first | exact List.mem_cons_self | apply List.mem_cons_of_mem)) (by first | exact il_at _ (by omega) | rfl | rfl) (by decide) ?_
         | refine o_loads tabOk (by first | exact own_rds 0 rfl | exact own_rds 1 rfl | exact own_rds 2 rfl | exact own_rds 3 rfl | exact own_rds 4 rfl | exact own_rds 5 rfl | exact own_rds 6 rfl | exact own_rds 7 rfl | exact own_rds 8 rfl | exact own_rds 9 rfl | assumption) rfl rfl rfl (by first | exact il_at _ (by omega) | rfl | rfl) (by decide) ?_)
         | (refine z_ldw tabOk rfl rfl ?_; first
         | refine o_loadwm tabOk rfl rfl rfl (by repeat' (first | exact List.mem_cons_self | apply List.mem_cons_of_mem)) (by first | rfl | rfl) (by decide) ?_))
         | (refine z_isstore ?_; first
         | (refine z_stw rfl ?_; first
         | ((refine z_sti 0 rfl rfl ?_; refine o_storeb0 rfl tabOk rfl rfl rfl (by first | rfl | rfl) (by first | rfl | rfl) (by first | rfl | rfl) ?_))
         | ((refine z_sti 1 rfl rfl ?_; refine o_storeb1 rfl tabOk rfl rfl rfl (by first | rfl | rfl) (by first | rfl | rfl) (by first | rfl | rfl) ?_))
         | ((refine z_sti 2 rfl rfl ?_; refine o_storeb2 rfl tabOk rfl rfl rfl (by first | rfl | rfl) (by first | rfl | rfl) (by first | rfl | rfl) ?_))
         | ((refine z_sti 3 rfl rfl ?_; refine o_storeb3 rfl tabOk rfl rfl rfl (by first | rfl | rfl) (by first | rfl | rfl) (by first | rfl | rfl) ?_))
         | ((refine z_sti 4 rfl rfl ?_; refine o_storeb4 rfl tabOk rfl rfl rfl (by first | rfl | rfl) (by first | rfl | rfl) (by first | rfl | rfl) ?_))
         | ((refine z_sti 5 rfl rfl ?_; refine o_storeb5 rfl tabOk rfl rfl rfl (by first | rfl | rfl) (by first | rfl | rfl) (by first | rfl | rfl) ?_))
         | ((refine z_sti 6 rfl rfl ?_; refine o_storeb6 rfl tabOk rfl rfl rfl (by first | rfl | rfl) (by first | rfl | rfl) (by first | rfl | rfl) ?_)))
         | (refine z_st1 rfl rfl ?_; first
         | refine o_store rfl tabOk rfl rfl rfl rfl rfl (by first | exact il_at _ (by omega) | rfl | rfl) (by first | rfl) ?_
         | ((refine z_sti 1 rfl rfl ?_; refine o_store1 rfl tabOk rfl rfl rfl rfl rfl (by first | exact il_at _ (by omega) | rfl | rfl) (by first | rfl) ?_))
         | ((refine z_sti 2 rfl rfl ?_; refine o_store2 rfl tabOk rfl rfl rfl rfl rfl (by first | exact il_at _ (by omega) | rfl | rfl) (by first | rfl) ?_))
         | ((refine z_sti 3 rfl rfl ?_; refine o_store3 rfl tabOk rfl rfl rfl rfl rfl (by first | exact il_at _ (by omega) | rfl | rfl) (by first | rfl) ?_))
         | ((refine z_sti 4 rfl rfl ?_; refine o_store4 rfl tabOk rfl rfl rfl rfl rfl (by first | exact il_at _ (by omega) | rfl | rfl) (by first | rfl) ?_))
         | ((refine z_sti 5 rfl rfl ?_; refine o_store5 rfl tabOk rfl rfl rfl rfl rfl (by first | exact il_at _ (by omega) | rfl | rfl) (by first | rfl) ?_))
         | ((refine z_sti 6 rfl rfl ?_; refine o_store6 rfl tabOk rfl rfl rfl rfl rfl (by first | exact il_at _ (by omega) | rfl | rfl) (by first | rfl) ?_))))
         | (refine z_iscall ?_; first
         | ((refine z_iscallf 11 ?_; refine z_isdst 45 ?_; refine o_callr rfl Try.func11 rfl rfl rfl (nsame_c La hLa _ _ _ _ _ (by first | exact own_rds 0 rfl | exact own_rds 1 rfl | exact own_rds 2 rfl | exact own_rds 3 rfl | exact own_rds 4 rfl | exact own_rds 5 rfl | exact own_rds 6 rfl | exact own_rds 7 rfl | exact own_rds 8 rfl | exact own_rds 9 rfl | assumption) (by first | exact own_rds 0 rfl | exact own_rds 1 rfl | exact own_rds 2 rfl | exact own_rds 3 rfl | exact own_rds 4 rfl | exact own_rds 5 rfl | exact own_rds 6 rfl | exact own_rds 7 rfl | exact own_rds 8 rfl | exact own_rds 9 rfl | assumption) (by omega)) (by decide) ?_))
         | ((refine z_iscallf 11 ?_; refine z_isdst 116 ?_; refine o_callr rfl Try.func11 rfl rfl rfl (nsame_c Ld hLd _ _ _ _ _ (by first | exact own_rds 0 rfl | exact own_rds 1 rfl | exact own_rds 2 rfl | exact own_rds 3 rfl | exact own_rds 4 rfl | exact own_rds 5 rfl | exact own_rds 6 rfl | exact own_rds 7 rfl | exact own_rds 8 rfl | exact own_rds 9 rfl | assumption) (by first | exact own_rds 0 rfl | exact own_rds 1 rfl | exact own_rds 2 rfl | exact own_rds 3 rfl | exact own_rds 4 rfl | exact own_rds 5 rfl | exact own_rds 6 rfl | exact own_rds 7 rfl | exact own_rds 8 rfl | exact own_rds 9 rfl | assumption) (by omega)) (by decide) ?_))
         | ((refine z_iscallf 18 ?_; refine o_fn rfl Try.func18 rfl rfl rfl (nawake_p) (by decide) ?_))
         | ((refine z_iscallf 10 ?_; refine o_calla Try.func10 rfl rfl rfl (made_cL D L hM A0 c0 _ (Rds.cons _ hrd0) hx) (by decide) fun x _ => ?_))
         | ((refine z_iscallf 11 ?_; refine z_isdst 26 ?_; refine o_callr rfl Try.func11 rfl rfl rfl (nsame_c L hL _ _ _ _ _ (by first | exact own_rds 0 rfl | exact own_rds 1 rfl | exact own_rds 2 rfl | exact own_rds 3 rfl | exact own_rds 4 rfl | exact own_rds 5 rfl | exact own_rds 6 rfl | exact own_rds 7 rfl | exact own_rds 8 rfl | exact own_rds 9 rfl | assumption) (by first | exact own_rds 0 rfl | exact own_rds 1 rfl | exact own_rds 2 rfl | exact own_rds 3 rfl | exact own_rds 4 rfl | exact own_rds 5 rfl | exact own_rds 6 rfl | exact own_rds 7 rfl | exact own_rds 8 rfl | exact own_rds 9 rfl | assumption) (by omega)) (by decide) ?_))
         | ((refine z_iscallf 11 ?_; refine z_isdst 125 ?_; refine o_callr rfl Try.func11 rfl rfl rfl (nsame_c L hL _ _ _ _ _ (by first | exact own_rds 0 rfl | exact own_rds 1 rfl | exact own_rds 2 rfl | exact own_rds 3 rfl | exact own_rds 4 rfl | exact own_rds 5 rfl | exact own_rds 6 rfl | exact own_rds 7 rfl | exact own_rds 8 rfl | exact own_rds 9 rfl | assumption) (by first | exact own_rds 0 rfl | exact own_rds 1 rfl | exact own_rds 2 rfl | exact own_rds 3 rfl | exact own_rds 4 rfl | exact own_rds 5 rfl | exact own_rds 6 rfl | exact own_rds 7 rfl | exact own_rds 8 rfl | exact own_rds 9 rfl | assumption) (by omega)) (by decide) ?_))
         | ((refine z_iscallf 12 ?_; first | refine o_calla Try.func12 rfl rfl rfl (add_yes L La q _ _ _ _ (by first | exact own_rds 0 rfl | exact own_rds 1 rfl | exact own_rds 2 rfl | exact own_rds 3 rfl | exact own_rds 4 rfl | exact own_rds 5 rfl | exact own_rds 6 rfl | exact own_rds 7 rfl | exact own_rds 8 rfl | exact own_rds 9 rfl | assumption) (by omega) ha) (by decide) fun u _ => ?_ | refine o_callr rfl Try.func12 rfl rfl rfl (add_no L _ _ _ _ (by first | exact own_rds 0 rfl | exact own_rds 1 rfl | exact own_rds 2 rfl | exact own_rds 3 rfl | exact own_rds 4 rfl | exact own_rds 5 rfl | exact own_rds 6 rfl | exact own_rds 7 rfl | exact own_rds 8 rfl | exact own_rds 9 rfl | assumption) (by omega) ha) (by decide) ?_))
         | ((refine z_iscallf 13 ?_; first | refine o_calla Try.func13 rfl rfl rfl (radd_yes L La q hL _ _ _ _ (by first | exact own_rds 0 rfl | exact own_rds 1 rfl | exact own_rds 2 rfl | exact own_rds 3 rfl | exact own_rds 4 rfl | exact own_rds 5 rfl | exact own_rds 6 rfl | exact own_rds 7 rfl | exact own_rds 8 rfl | exact own_rds 9 rfl | assumption) (by omega) ha) (by decide) fun u2 _ => ?_ | refine o_callr rfl Try.func13 rfl rfl rfl (radd_no L hL _ _ _ _ (by first | exact own_rds 0 rfl | exact own_rds 1 rfl | exact own_rds 2 rfl | exact own_rds 3 rfl | exact own_rds 4 rfl | exact own_rds 5 rfl | exact own_rds 6 rfl | exact own_rds 7 rfl | exact own_rds 8 rfl | exact own_rds 9 rfl | assumption) (by omega) ha) (by decide) ?_))
         | ((refine z_iscallf 14 ?_; first | refine o_calla Try.func14 rfl rfl rfl (drop_yes L Ld hL _ _ _ _ (by first | exact own_rds 0 rfl | exact own_rds 1 rfl | exact own_rds 2 rfl | exact own_rds 3 rfl | exact own_rds 4 rfl | exact own_rds 5 rfl | exact own_rds 6 rfl | exact own_rds 7 rfl | exact own_rds 8 rfl | exact own_rds 9 rfl | assumption) (by omega) hd) (by decide) fun v _ => ?_ | refine o_callr rfl Try.func14 rfl rfl rfl (drop_no L hL _ _ _ _ (by first | exact own_rds 0 rfl | exact own_rds 1 rfl | exact own_rds 2 rfl | exact own_rds 3 rfl | exact own_rds 4 rfl | exact own_rds 5 rfl | exact own_rds 6 rfl | exact own_rds 7 rfl | exact own_rds 8 rfl | exact own_rds 9 rfl | assumption) (by omega) hd) (by decide) ?_))
         | ((refine z_iscallf 15 ?_; first | refine o_calla Try.func15 rfl rfl rfl (rdrop_yes L Ld _ _ _ _ (by first | exact own_rds 0 rfl | exact own_rds 1 rfl | exact own_rds 2 rfl | exact own_rds 3 rfl | exact own_rds 4 rfl | exact own_rds 5 rfl | exact own_rds 6 rfl | exact own_rds 7 rfl | exact own_rds 8 rfl | exact own_rds 9 rfl | assumption) (by omega) hd) (by decide) fun v2 _ => ?_ | refine o_callr rfl Try.func15 rfl rfl rfl (rdrop_no L _ _ _ _ (by first | exact own_rds 0 rfl | exact own_rds 1 rfl | exact own_rds 2 rfl | exact own_rds 3 rfl | exact own_rds 4 rfl | exact own_rds 5 rfl | exact own_rds 6 rfl | exact own_rds 7 rfl | exact own_rds 8 rfl | exact own_rds 9 rfl | assumption) (by omega) hd) (by decide) ?_))
         | ((refine z_iscallf 16 ?_; refine o_callr rfl Try.func16 rfl rfl rfl (find_cv L _ _ _ _ (by first | exact own_rds 0 rfl | exact own_rds 1 rfl | exact own_rds 2 rfl | exact own_rds 3 rfl | exact own_rds 4 rfl | exact own_rds 5 rfl | exact own_rds 6 rfl | exact own_rds 7 rfl | exact own_rds 8 rfl | exact own_rds 9 rfl | assumption) (by omega)) (by decide) ?_))
         | ((refine z_iscallf 17 ?_; refine o_callr rfl Try.func17 rfl rfl rfl (rfind_c L _ _ _ _ (by first | exact own_rds 0 rfl | exact own_rds 1 rfl | exact own_rds 2 rfl | exact own_rds 3 rfl | exact own_rds 4 rfl | exact own_rds 5 rfl | exact own_rds 6 rfl | exact own_rds 7 rfl | exact own_rds 8 rfl | exact own_rds 9 rfl | assumption) (by omega)) (by decide) ?_)))
         | (refine z_ispick ?_; first
         | (refine o_pick1 rfl (by first | with_reducible rfl | with_reducible assumption | ((with_reducible refine decide_eq_true ?_); first | with_reducible rfl | with_reducible assumption | omega)) rfl (by decide) ?_)
         | (refine o_pick0 rfl (by first | with_reducible rfl | with_reducible assumption | ((with_reducible refine decide_eq_false ?_); first | with_reducible assumption | omega)) rfl (by decide) ?_)
         | (refine o_pick1 rfl (by first | (simp only [Bool.not_eq_true', decide_eq_false_iff_not]; omega) | (with_reducible assumption) | (rw [decide_eq_false] <;> (first | omega | with_reducible rfl)) | (rw [decide_eq_true] <;> (first | omega | with_reducible rfl)) | (simp; done) | (simp; omega)) rfl (by decide) ?_)
         | (refine o_pick0 rfl (by first | (simp only [Bool.not_eq_false', decide_eq_true_eq]; omega) | (with_reducible assumption) | (rw [decide_eq_false] <;> (first | omega | with_reducible rfl)) | (rw [decide_eq_true] <;> (first | omega | with_reducible rfl)) | (simp; done) | (simp; omega)) rfl (by decide) ?_))
         | refine o_move rfl (by decide) ?_
         | refine o_assign rfl (by decide) ?_
         | refine o_nil rfl (by decide) ?_
         | refine o_extract rfl rfl (by decide) ?_
         | refine o_not rfl (by decide) ?_
         | refine o_field0 tabOk rfl rfl rfl rfl rfl (by decide) ?_
         | refine o_field tabOk rfl rfl rfl rfl rfl (by decide) ?_
         | refine o_conv tabOk rfl rfl rfl (by decide) ?_))
    | none =>
      rcases hff with ⟨hf1, hf2⟩ | ⟨hf1, hf2, hf3⟩
      · skip
        repeat' (first
         | (refine s_is ?_; first
         | (refine s_isret ?_; first
         | exact f_r1 rfl (res_t rfl) () trivial rfl (fun w h => ((h.sel 9 [8, 0, 1, 2, 3, 4, 5, 6, 7] (by decide)).mask [true, false, false, false, false, false, false, false, false])))
         | (refine s_isw ?_; first
         | refine c_seq ?_
         | refine c_block ?_
         | refine c_region ?_
         | refine c_mixed mixed (by kernel_rfl) ?_
         | refine c_skip ?_
         | refine c_ret ?_
         | refine c_exit ?_
         | (refine s_iscond ?_; first
         | (refine c_true rfl (by first | with_reducible rfl | with_reducible assumption | ((with_reducible refine decide_eq_true ?_); first | with_reducible rfl | with_reducible assumption | omega)) ?_)
         | (refine c_false rfl (by first | with_reducible rfl | with_reducible assumption | ((with_reducible refine decide_eq_false ?_); first | with_reducible assumption | omega)) ?_)
         | (refine c_true rfl (by first | (simp only [Bool.not_eq_true', decide_eq_false_iff_not]; omega) | (with_reducible assumption) | (rw [decide_eq_false] <;> (first | omega | with_reducible rfl)) | (rw [decide_eq_true] <;> (first | omega | with_reducible rfl)) | (simp; done) | (simp; omega)) ?_)
         | (refine c_false rfl (by first | (simp only [Bool.not_eq_false', decide_eq_true_eq]; omega) | (with_reducible assumption) | (rw [decide_eq_false] <;> (first | omega | with_reducible rfl)) | (rw [decide_eq_true] <;> (first | omega | with_reducible rfl)) | (simp; done) | (simp; omega)) ?_)
         | refine c_cond rfl (fun hc => ?_) (fun hc => ?_)
         | refine c_condb rfl (fun hc => ?_) (fun hc => ?_)))
         | refine x_then ?_
         | refine x_then_ret ?_
         | refine x_then_exit ?_
         | refine x_block _ ?_
         | refine x_block_ret _ ?_
         | refine x_block_exit _ ?_
         | refine x_block_past (by decide) ?_
         | refine z_tailm ?_)
         | (refine z_isg1 ?_; first
         | refine z_skipu (by decide) rfl rfl ?_
         | (refine z_want1 rfl rfl (by first | with_reducible rfl | with_reducible assumption | ((with_reducible refine decide_eq_true ?_); first | with_reducible rfl | with_reducible assumption | omega)) ?_)
         | (refine z_skip1 (by decide) rfl rfl (by first | with_reducible rfl | with_reducible assumption | ((with_reducible refine decide_eq_false ?_); first | with_reducible assumption | omega)) ?_)
         | (refine z_want1 rfl rfl (by first | (simp only [Bool.not_eq_true', decide_eq_false_iff_not]; omega) | (with_reducible assumption) | (rw [decide_eq_false] <;> (first | omega | with_reducible rfl)) | (rw [decide_eq_true] <;> (first | omega | with_reducible rfl)) | (simp; done) | (simp; omega)) ?_)
         | (refine z_skip1 (by decide) rfl rfl (by first | (simp only [Bool.not_eq_false', decide_eq_true_eq]; omega) | (with_reducible assumption) | (rw [decide_eq_false] <;> (first | omega | with_reducible rfl)) | (rw [decide_eq_true] <;> (first | omega | with_reducible rfl)) | (simp; done) | (simp; omega)) ?_)
         | refine z_guard1 (by decide) rfl rfl (fun hc => ?_) (fun hc => ?_)
         | refine z_guardb (by decide) rfl rfl (fun hc => ?_) (fun hc => ?_))
         | (refine z_isg0 ?_; first
         | refine z_skipu (by decide) rfl rfl ?_
         | (refine z_want0 rfl rfl (by first | with_reducible rfl | with_reducible assumption | ((with_reducible refine decide_eq_false ?_); first | with_reducible assumption | omega)) ?_)
         | (refine z_skip0 (by decide) rfl rfl (by first | with_reducible rfl | with_reducible assumption | ((with_reducible refine decide_eq_true ?_); first | with_reducible rfl | with_reducible assumption | omega)) ?_)
         | (refine z_want0 rfl rfl (by first | (simp only [Bool.not_eq_false', decide_eq_true_eq]; omega) | (with_reducible assumption) | (rw [decide_eq_false] <;> (first | omega | with_reducible rfl)) | (rw [decide_eq_true] <;> (first | omega | with_reducible rfl)) | (simp; done) | (simp; omega)) ?_)
         | (refine z_skip0 (by decide) rfl rfl (by first | (simp only [Bool.not_eq_true', decide_eq_false_iff_not]; omega) | (with_reducible assumption) | (rw [decide_eq_false] <;> (first | omega | with_reducible rfl)) | (rw [decide_eq_true] <;> (first | omega | with_reducible rfl)) | (simp; done) | (simp; omega)) ?_)
         | refine z_guard0 (by decide) rfl rfl (fun hc => ?_) (fun hc => ?_)
         | refine z_guardb (by decide) rfl rfl (fun hc => ?_) (fun hc => ?_))
         | (refine z_isnil ?_; first
         | refine z_list ?_
         | refine z_mixed ?_
         | refine z_mono0 ?_
         | refine z_mono1 (by decide) fun g => ?_
         | refine z_mono2 (by decide) (by decide) fun g g' => ?_
         | refine z_mixedx ?_
         | refine z_quiet ?_)
         | (refine z_isop ?_; first
         | refine o_alloca (e := 27) (vs := [.slice none 0 0]) rfl (by kernel_rfl) (by decide) fun g => ?_
         | refine o_boxa (vs := [.int .i64 k, .int .i64 n]) rfl rfl (by decide) fun g3 => ?_
         | (refine z_isbin ?_; first
         | (refine z_isb .eql ?_; first
         | refine o_eq rfl rfl (by decide) ?_
         | refine o_beq tabOk rfl rfl rfl (by decide) ?_
         | refine o_peq tabOk rfl rfl (by decide) ?_)
         | (refine z_isb .neq ?_; first
         | refine o_ne rfl rfl (by decide) ?_
         | refine o_bne tabOk rfl rfl rfl (by decide) ?_
         | refine o_pne tabOk rfl rfl (by decide) ?_)
         | (refine z_isb .geq ?_; first
         | refine o_ge rfl rfl (by decide) ?_))
         | (refine z_isload ?_; first
         | (refine z_ld1 tabOk rfl rfl ?_; first
         | refine o_loadm tabOk rfl rfl rfl (by repeat' (first | exact List.mem_cons_self | apply List.mem_cons_of_mem)) (by first | exact il_at _ (by omega) | rfl | rfl) (by decide) ?_
         | refine o_loads tabOk (by first | exact own_rds 0 rfl | exact own_rds 1 rfl | exact own_rds 2 rfl | exact own_rds 3 rfl | exact own_rds 4 rfl | exact own_rds 5 rfl | exact own_rds 6 rfl | exact own_rds 7 rfl | exact own_rds 8 rfl | exact own_rds 9 rfl | assumption) rfl rfl rfl (by first | exact il_at _ (by omega) | rfl | rfl) (by decide) ?_)
         | (refine z_ldw tabOk rfl rfl ?_; first
         | refine o_loadwm tabOk rfl rfl rfl (by repeat' (first | exact List.mem_cons_self | apply List.mem_cons_of_mem)) (by first | rfl | rfl) (by decide) ?_))
         | (refine z_isstore ?_; first
         | (refine z_stw rfl ?_; first
         | ((refine z_sti 0 rfl rfl ?_; refine o_storeb0 rfl tabOk rfl rfl rfl (by first | rfl | rfl) (by first | rfl | rfl) (by first | rfl | rfl) ?_))
         | ((refine z_sti 1 rfl rfl ?_; refine o_storeb1 rfl tabOk rfl rfl rfl (by first | rfl | rfl) (by first | rfl | rfl) (by first | rfl | rfl) ?_))
         | ((refine z_sti 2 rfl rfl ?_; refine o_storeb2 rfl tabOk rfl rfl rfl (by first | rfl | rfl) (by first | rfl | rfl) (by first | rfl | rfl) ?_))
         | ((refine z_sti 3 rfl rfl ?_; refine o_storeb3 rfl tabOk rfl rfl rfl (by first | rfl | rfl) (by first | rfl | rfl) (by first | rfl | rfl) ?_))
         | ((refine z_sti 4 rfl rfl ?_; refine o_storeb4 rfl tabOk rfl rfl rfl (by first | rfl | rfl) (by first | rfl | rfl) (by first | rfl | rfl) ?_))
         | ((refine z_sti 5 rfl rfl ?_; refine o_storeb5 rfl tabOk rfl rfl rfl (by first | rfl | rfl) (by first | rfl | rfl) (by first | rfl | rfl) ?_))
         | ((refine z_sti 6 rfl rfl ?_; refine o_storeb6 rfl tabOk rfl rfl rfl (by first | rfl | rfl) (by first | rfl | rfl) (by first | rfl | rfl) ?_)))
         | (refine z_st1 rfl rfl ?_; first
         | refine o_store rfl tabOk rfl rfl rfl rfl rfl (by first | exact il_at _ (by omega) | rfl | rfl) (by first | rfl) ?_
         | ((refine z_sti 1 rfl rfl ?_; refine o_store1 rfl tabOk rfl rfl rfl rfl rfl (by first | exact il_at _ (by omega) | rfl | rfl) (by first | rfl) ?_))
         | ((refine z_sti 2 rfl rfl ?_; refine o_store2 rfl tabOk rfl rfl rfl rfl rfl (by first | exact il_at _ (by omega) | rfl | rfl) (by first | rfl) ?_))
         | ((refine z_sti 3 rfl rfl ?_; refine o_store3 rfl tabOk rfl rfl rfl rfl rfl (by first | exact il_at _ (by omega) | rfl | rfl) (by first | rfl) ?_))
         | ((refine z_sti 4 rfl rfl ?_; refine o_store4 rfl tabOk rfl rfl rfl rfl rfl (by first | exact il_at _ (by omega) | rfl | rfl) (by first | rfl) ?_))
         | ((refine z_sti 5 rfl rfl ?_; refine o_store5 rfl tabOk rfl rfl rfl rfl rfl (by first | exact il_at _ (by omega) | rfl | rfl) (by first | rfl) ?_))
         | ((refine z_sti 6 rfl rfl ?_; refine o_store6 rfl tabOk rfl rfl rfl rfl rfl (by first | exact il_at _ (by omega) | rfl | rfl) (by first | rfl) ?_))))
         | (refine z_iscall ?_; first
         | ((refine z_iscallf 11 ?_; refine z_isdst 45 ?_; refine o_callr rfl Try.func11 rfl rfl rfl (nsame_c La hLa _ _ _ _ _ (by first | exact own_rds 0 rfl | exact own_rds 1 rfl | exact own_rds 2 rfl | exact own_rds 3 rfl | exact own_rds 4 rfl | exact own_rds 5 rfl | exact own_rds 6 rfl | exact own_rds 7 rfl | exact own_rds 8 rfl | exact own_rds 9 rfl | assumption) (by first | exact own_rds 0 rfl | exact own_rds 1 rfl | exact own_rds 2 rfl | exact own_rds 3 rfl | exact own_rds 4 rfl | exact own_rds 5 rfl | exact own_rds 6 rfl | exact own_rds 7 rfl | exact own_rds 8 rfl | exact own_rds 9 rfl | assumption) (by omega)) (by decide) ?_))
         | ((refine z_iscallf 11 ?_; refine z_isdst 116 ?_; refine o_callr rfl Try.func11 rfl rfl rfl (nsame_c L hL _ _ _ _ _ (by first | exact own_rds 0 rfl | exact own_rds 1 rfl | exact own_rds 2 rfl | exact own_rds 3 rfl | exact own_rds 4 rfl | exact own_rds 5 rfl | exact own_rds 6 rfl | exact own_rds 7 rfl | exact own_rds 8 rfl | exact own_rds 9 rfl | assumption) (by first | exact own_rds 0 rfl | exact own_rds 1 rfl | exact own_rds 2 rfl | exact own_rds 3 rfl | exact own_rds 4 rfl | exact own_rds 5 rfl | exact own_rds 6 rfl | exact own_rds 7 rfl | exact own_rds 8 rfl | exact own_rds 9 rfl | assumption) (by omega)) (by decide) ?_))
         | ((refine z_iscallf 18 ?_; refine o_fn rfl Try.func18 rfl rfl rfl (nawake_p) (by decide) ?_))
         | ((refine z_iscallf 10 ?_; refine o_calla Try.func10 rfl rfl rfl (made_cL D L hM A0 c0 _ (Rds.cons _ hrd0) hx) (by decide) fun x _ => ?_))
         | ((refine z_iscallf 11 ?_; refine z_isdst 26 ?_; refine o_callr rfl Try.func11 rfl rfl rfl (nsame_c L hL _ _ _ _ _ (by first | exact own_rds 0 rfl | exact own_rds 1 rfl | exact own_rds 2 rfl | exact own_rds 3 rfl | exact own_rds 4 rfl | exact own_rds 5 rfl | exact own_rds 6 rfl | exact own_rds 7 rfl | exact own_rds 8 rfl | exact own_rds 9 rfl | assumption) (by first | exact own_rds 0 rfl | exact own_rds 1 rfl | exact own_rds 2 rfl | exact own_rds 3 rfl | exact own_rds 4 rfl | exact own_rds 5 rfl | exact own_rds 6 rfl | exact own_rds 7 rfl | exact own_rds 8 rfl | exact own_rds 9 rfl | assumption) (by omega)) (by decide) ?_))
         | ((refine z_iscallf 11 ?_; refine z_isdst 125 ?_; refine o_callr rfl Try.func11 rfl rfl rfl (nsame_c L hL _ _ _ _ _ (by first | exact own_rds 0 rfl | exact own_rds 1 rfl | exact own_rds 2 rfl | exact own_rds 3 rfl | exact own_rds 4 rfl | exact own_rds 5 rfl | exact own_rds 6 rfl | exact own_rds 7 rfl | exact own_rds 8 rfl | exact own_rds 9 rfl | assumption) (by first | exact own_rds 0 rfl | exact own_rds 1 rfl | exact own_rds 2 rfl | exact own_rds 3 rfl | exact own_rds 4 rfl | exact own_rds 5 rfl | exact own_rds 6 rfl | exact own_rds 7 rfl | exact own_rds 8 rfl | exact own_rds 9 rfl | assumption) (by omega)) (by decide) ?_))
         | ((refine z_iscallf 12 ?_; first | refine o_calla Try.func12 rfl rfl rfl (add_yes L La q _ _ _ _ (by first | exact own_rds 0 rfl | exact own_rds 1 rfl | exact own_rds 2 rfl | exact own_rds 3 rfl | exact own_rds 4 rfl | exact own_rds 5 rfl | exact own_rds 6 rfl | exact own_rds 7 rfl | exact own_rds 8 rfl | exact own_rds 9 rfl | assumption) (by omega) ha) (by decide) fun u _ => ?_ | refine o_callr rfl Try.func12 rfl rfl rfl (add_no L _ _ _ _ (by first | exact own_rds 0 rfl | exact own_rds 1 rfl | exact own_rds 2 rfl | exact own_rds 3 rfl | exact own_rds 4 rfl | exact own_rds 5 rfl | exact own_rds 6 rfl | exact own_rds 7 rfl | exact own_rds 8 rfl | exact own_rds 9 rfl | assumption) (by omega) ha) (by decide) ?_))
         | ((refine z_iscallf 13 ?_; first | refine o_calla Try.func13 rfl rfl rfl (radd_yes L La q hL _ _ _ _ (by first | exact own_rds 0 rfl | exact own_rds 1 rfl | exact own_rds 2 rfl | exact own_rds 3 rfl | exact own_rds 4 rfl | exact own_rds 5 rfl | exact own_rds 6 rfl | exact own_rds 7 rfl | exact own_rds 8 rfl | exact own_rds 9 rfl | assumption) (by omega) ha) (by decide) fun u2 _ => ?_ | refine o_callr rfl Try.func13 rfl rfl rfl (radd_no L hL _ _ _ _ (by first | exact own_rds 0 rfl | exact own_rds 1 rfl | exact own_rds 2 rfl | exact own_rds 3 rfl | exact own_rds 4 rfl | exact own_rds 5 rfl | exact own_rds 6 rfl | exact own_rds 7 rfl | exact own_rds 8 rfl | exact own_rds 9 rfl | assumption) (by omega) ha) (by decide) ?_))
         | ((refine z_iscallf 14 ?_; first | refine o_calla Try.func14 rfl rfl rfl (drop_yes L Ld hL _ _ _ _ (by first | exact own_rds 0 rfl | exact own_rds 1 rfl | exact own_rds 2 rfl | exact own_rds 3 rfl | exact own_rds 4 rfl | exact own_rds 5 rfl | exact own_rds 6 rfl | exact own_rds 7 rfl | exact own_rds 8 rfl | exact own_rds 9 rfl | assumption) (by omega) hd) (by decide) fun v _ => ?_ | refine o_callr rfl Try.func14 rfl rfl rfl (drop_no L hL _ _ _ _ (by first | exact own_rds 0 rfl | exact own_rds 1 rfl | exact own_rds 2 rfl | exact own_rds 3 rfl | exact own_rds 4 rfl | exact own_rds 5 rfl | exact own_rds 6 rfl | exact own_rds 7 rfl | exact own_rds 8 rfl | exact own_rds 9 rfl | assumption) (by omega) hd) (by decide) ?_))
         | ((refine z_iscallf 15 ?_; first | refine o_calla Try.func15 rfl rfl rfl (rdrop_yes L Ld _ _ _ _ (by first | exact own_rds 0 rfl | exact own_rds 1 rfl | exact own_rds 2 rfl | exact own_rds 3 rfl | exact own_rds 4 rfl | exact own_rds 5 rfl | exact own_rds 6 rfl | exact own_rds 7 rfl | exact own_rds 8 rfl | exact own_rds 9 rfl | assumption) (by omega) hd) (by decide) fun v2 _ => ?_ | refine o_callr rfl Try.func15 rfl rfl rfl (rdrop_no L _ _ _ _ (by first | exact own_rds 0 rfl | exact own_rds 1 rfl | exact own_rds 2 rfl | exact own_rds 3 rfl | exact own_rds 4 rfl | exact own_rds 5 rfl | exact own_rds 6 rfl | exact own_rds 7 rfl | exact own_rds 8 rfl | exact own_rds 9 rfl | assumption) (by omega) hd) (by decide) ?_))
         | ((refine z_iscallf 16 ?_; refine o_callr rfl Try.func16 rfl rfl rfl (find_cv L _ _ _ _ (by first | exact own_rds 0 rfl | exact own_rds 1 rfl | exact own_rds 2 rfl | exact own_rds 3 rfl | exact own_rds 4 rfl | exact own_rds 5 rfl | exact own_rds 6 rfl | exact own_rds 7 rfl | exact own_rds 8 rfl | exact own_rds 9 rfl | assumption) (by omega)) (by decide) ?_))
         | ((refine z_iscallf 17 ?_; refine o_callr rfl Try.func17 rfl rfl rfl (rfind_c L _ _ _ _ (by first | exact own_rds 0 rfl | exact own_rds 1 rfl | exact own_rds 2 rfl | exact own_rds 3 rfl | exact own_rds 4 rfl | exact own_rds 5 rfl | exact own_rds 6 rfl | exact own_rds 7 rfl | exact own_rds 8 rfl | exact own_rds 9 rfl | assumption) (by omega)) (by decide) ?_)))
         | (refine z_ispick ?_; first
         | (refine o_pick1 rfl (by first | with_reducible rfl | with_reducible assumption | ((with_reducible refine decide_eq_true ?_); first | with_reducible rfl | with_reducible assumption | omega)) rfl (by decide) ?_)
         | (refine o_pick0 rfl (by first | with_reducible rfl | with_reducible assumption | ((with_reducible refine decide_eq_false ?_); first | with_reducible assumption | omega)) rfl (by decide) ?_)
         | (refine o_pick1 rfl (by first | (simp only [Bool.not_eq_true', decide_eq_false_iff_not]; omega) | (with_reducible assumption) | (rw [decide_eq_false] <;> (first | omega | with_reducible rfl)) | (rw [decide_eq_true] <;> (first | omega | with_reducible rfl)) | (simp; done) | (simp; omega)) rfl (by decide) ?_)
         | (refine o_pick0 rfl (by first | (simp only [Bool.not_eq_false', decide_eq_true_eq]; omega) | (with_reducible assumption) | (rw [decide_eq_false] <;> (first | omega | with_reducible rfl)) | (rw [decide_eq_true] <;> (first | omega | with_reducible rfl)) | (simp; done) | (simp; omega)) rfl (by decide) ?_))
         | refine o_move rfl (by decide) ?_
         | refine o_assign rfl (by decide) ?_
         | refine o_nil rfl (by decide) ?_
         | refine o_extract rfl rfl (by decide) ?_
         | refine o_not rfl (by decide) ?_
         | refine o_field0 tabOk rfl rfl rfl rfl rfl (by decide) ?_
         | refine o_field tabOk rfl rfl rfl rfl rfl (by decide) ?_
         | refine o_conv tabOk rfl rfl rfl (by decide) ?_))
      · skip
        repeat' (first
         | (refine s_is ?_; first
         | (refine s_isret ?_; first
         | exact f_r1 rfl (res_t rfl) () trivial rfl (fun w h => ((h.sel 9 [8, 0, 1, 2, 3, 4, 5, 6, 7] (by decide)).mask [true, false, false, false, false, false, false, false, false])))
         | (refine s_isw ?_; first
         | refine c_seq ?_
         | refine c_block ?_
         | refine c_region ?_
         | refine c_mixed mixed (by kernel_rfl) ?_
         | refine c_skip ?_
         | refine c_ret ?_
         | refine c_exit ?_
         | (refine s_iscond ?_; first
         | (refine c_true rfl (by first | with_reducible rfl | with_reducible assumption | ((with_reducible refine decide_eq_true ?_); first | with_reducible rfl | with_reducible assumption | omega)) ?_)
         | (refine c_false rfl (by first | with_reducible rfl | with_reducible assumption | ((with_reducible refine decide_eq_false ?_); first | with_reducible assumption | omega)) ?_)
         | (refine c_true rfl (by first | (simp only [Bool.not_eq_true', decide_eq_false_iff_not]; omega) | (with_reducible assumption) | (rw [decide_eq_false] <;> (first | omega | with_reducible rfl)) | (rw [decide_eq_true] <;> (first | omega | with_reducible rfl)) | (simp; done) | (simp; omega)) ?_)
         | (refine c_false rfl (by first | (simp only [Bool.not_eq_false', decide_eq_true_eq]; omega) | (with_reducible assumption) | (rw [decide_eq_false] <;> (first | omega | with_reducible rfl)) | (rw [decide_eq_true] <;> (first | omega | with_reducible rfl)) | (simp; done) | (simp; omega)) ?_)
         | refine c_cond rfl (fun hc => ?_) (fun hc => ?_)
         | refine c_condb rfl (fun hc => ?_) (fun hc => ?_)))
         | refine x_then ?_
         | refine x_then_ret ?_
         | refine x_then_exit ?_
         | refine x_block _ ?_
         | refine x_block_ret _ ?_
         | refine x_block_exit _ ?_
         | refine x_block_past (by decide) ?_
         | refine z_tailm ?_)
         | (refine z_isg1 ?_; first
         | refine z_skipu (by decide) rfl rfl ?_
         | (refine z_want1 rfl rfl (by first | with_reducible rfl | with_reducible assumption | ((with_reducible refine decide_eq_true ?_); first | with_reducible rfl | with_reducible assumption | omega)) ?_)
         | (refine z_skip1 (by decide) rfl rfl (by first | with_reducible rfl | with_reducible assumption | ((with_reducible refine decide_eq_false ?_); first | with_reducible assumption | omega)) ?_)
         | (refine z_want1 rfl rfl (by first | (simp only [Bool.not_eq_true', decide_eq_false_iff_not]; omega) | (with_reducible assumption) | (rw [decide_eq_false] <;> (first | omega | with_reducible rfl)) | (rw [decide_eq_true] <;> (first | omega | with_reducible rfl)) | (simp; done) | (simp; omega)) ?_)
         | (refine z_skip1 (by decide) rfl rfl (by first | (simp only [Bool.not_eq_false', decide_eq_true_eq]; omega) | (with_reducible assumption) | (rw [decide_eq_false] <;> (first | omega | with_reducible rfl)) | (rw [decide_eq_true] <;> (first | omega | with_reducible rfl)) | (simp; done) | (simp; omega)) ?_)
         | refine z_guard1 (by decide) rfl rfl (fun hc => ?_) (fun hc => ?_)
         | refine z_guardb (by decide) rfl rfl (fun hc => ?_) (fun hc => ?_))
         | (refine z_isg0 ?_; first
         | refine z_skipu (by decide) rfl rfl ?_
         | (refine z_want0 rfl rfl (by first | with_reducible rfl | with_reducible assumption | ((with_reducible refine decide_eq_false ?_); first | with_reducible assumption | omega)) ?_)
         | (refine z_skip0 (by decide) rfl rfl (by first | with_reducible rfl | with_reducible assumption | ((with_reducible refine decide_eq_true ?_); first | with_reducible rfl | with_reducible assumption | omega)) ?_)
         | (refine z_want0 rfl rfl (by first | (simp only [Bool.not_eq_false', decide_eq_true_eq]; omega) | (with_reducible assumption) | (rw [decide_eq_false] <;> (first | omega | with_reducible rfl)) | (rw [decide_eq_true] <;> (first | omega | with_reducible rfl)) | (simp; done) | (simp; omega)) ?_)
         | (refine z_skip0 (by decide) rfl rfl (by first | (simp only [Bool.not_eq_true', decide_eq_false_iff_not]; omega) | (with_reducible assumption) | (rw [decide_eq_false] <;> (first | omega | with_reducible rfl)) | (rw [decide_eq_true] <;> (first | omega | with_reducible rfl)) | (simp; done) | (simp; omega)) ?_)
         | refine z_guard0 (by decide) rfl rfl (fun hc => ?_) (fun hc => ?_)
         | refine z_guardb (by decide) rfl rfl (fun hc => ?_) (fun hc => ?_))
         | (refine z_isnil ?_; first
         | refine z_list ?_
         | refine z_mixed ?_
         | refine z_mono0 ?_
         | refine z_mono1 (by decide) fun g => ?_
         | refine z_mono2 (by decide) (by decide) fun g g' => ?_
         | refine z_mixedx ?_
         | refine z_quiet ?_)
         | (refine z_isop ?_; first
         | refine o_alloca (e := 27) (vs := [.slice none 0 0]) rfl (by kernel_rfl) (by decide) fun g => ?_
         | refine o_boxa (vs := [.int .i64 k, .int .i64 n]) rfl rfl (by decide) fun g3 => ?_
         | (refine z_isbin ?_; first
         | (refine z_isb .eql ?_; first
         | refine o_eq rfl rfl (by decide) ?_
         | refine o_beq tabOk rfl rfl rfl (by decide) ?_
         | refine o_peq tabOk rfl rfl (by decide) ?_)
         | (refine z_isb .neq ?_; first
         | refine o_ne rfl rfl (by decide) ?_
         | refine o_bne tabOk rfl rfl rfl (by decide) ?_
         | refine o_pne tabOk rfl rfl (by decide) ?_)
         | (refine z_isb .geq ?_; first
         | refine o_ge rfl rfl (by decide) ?_))
         | (refine z_isload ?_; first
         | (refine z_ld1 tabOk rfl rfl ?_; first
         | refine o_loadm tabOk rfl rfl rfl (by repeat' (first | exact List.mem_cons_self | apply List.mem_cons_of_mem)) (by first | exact il_at _ (by omega) | rfl | rfl) (by decide) ?_
         | refine o_loads tabOk (by first | exact own_rds 0 rfl | exact own_rds 1 rfl | exact own_rds 2 rfl | exact own_rds 3 rfl | exact own_rds 4 rfl | exact own_rds 5 rfl | exact own_rds 6 rfl | exact own_rds 7 rfl | exact own_rds 8 rfl | exact own_rds 9 rfl | assumption) rfl rfl rfl (by first | exact il_at _ (by omega) | rfl | rfl) (by decide) ?_)
         | (refine z_ldw tabOk rfl rfl ?_; first
         | refine o_loadwm tabOk rfl rfl rfl (by repeat' (first | exact List.mem_cons_self | apply List.mem_cons_of_mem)) (by first | rfl | rfl) (by decide) ?_))
         | (refine z_isstore ?_; first
         | (refine z_stw rfl ?_; first
         | ((refine z_sti 0 rfl rfl ?_; refine o_storeb0 rfl tabOk rfl rfl rfl (by first | rfl | rfl) (by first | rfl | rfl) (by first | rfl | rfl) ?_))
         | ((refine z_sti 1 rfl rfl ?_; refine o_storeb1 rfl tabOk rfl rfl rfl (by first | rfl | rfl) (by first | rfl | rfl) (by first | rfl | rfl) ?_))
         | ((refine z_sti 2 rfl rfl ?_; refine o_storeb2 rfl tabOk rfl rfl rfl (by first | rfl | rfl) (by first | rfl | rfl) (by first | rfl | rfl) ?_))
         | ((refine z_sti 3 rfl rfl ?_; refine o_storeb3 rfl tabOk rfl rfl rfl (by first | rfl | rfl) (by first | rfl | rfl) (by first | rfl | rfl) ?_))
         | ((refine z_sti 4 rfl rfl ?_; refine o_storeb4 rfl tabOk rfl rfl rfl (by first | rfl | rfl) (by first | rfl | rfl) (by first | rfl | rfl) ?_))
         | ((refine z_sti 5 rfl rfl ?_; refine o_storeb5 rfl tabOk rfl rfl rfl (by first | rfl | rfl) (by first | rfl | rfl) (by first | rfl | rfl) ?_))
         | ((refine z_sti 6 rfl rfl ?_; refine o_storeb6 rfl tabOk rfl rfl rfl (by first | rfl | rfl) (by first | rfl | rfl) (by first | rfl | rfl) ?_)))
         | (refine z_st1 rfl rfl ?_; first
         | refine o_store rfl tabOk rfl rfl rfl rfl rfl (by first | exact il_at _ (by omega) | rfl | rfl) (by first | rfl) ?_
         | ((refine z_sti 1 rfl rfl ?_; refine o_store1 rfl tabOk rfl rfl rfl rfl rfl (by first | exact il_at _ (by omega) | rfl | rfl) (by first | rfl) ?_))
         | ((refine z_sti 2 rfl rfl ?_; refine o_store2 rfl tabOk rfl rfl rfl rfl rfl (by first | exact il_at _ (by omega) | rfl | rfl) (by first | rfl) ?_))
         | ((refine z_sti 3 rfl rfl ?_; refine o_store3 rfl tabOk rfl rfl rfl rfl rfl (by first | exact il_at _ (by omega) | rfl | rfl) (by first | rfl) ?_))
         | ((refine z_sti 4 rfl rfl ?_; refine o_store4 rfl tabOk rfl rfl rfl rfl rfl (by first | exact il_at _ (by omega) | rfl | rfl) (by first | rfl) ?_))
         | ((refine z_sti 5 rfl rfl ?_; refine o_store5 rfl tabOk rfl rfl rfl rfl rfl (by first | exact il_at _ (by omega) | rfl | rfl) (by first | rfl) ?_))
         | ((refine z_sti 6 rfl rfl ?_; refine o_store6 rfl tabOk rfl rfl rfl rfl rfl (by first | exact il_at _ (by omega) | rfl | rfl) (by first | rfl) ?_))))
         | (refine z_iscall ?_; first
         | ((refine z_iscallf 11 ?_; refine z_isdst 45 ?_; refine o_callr rfl Try.func11 rfl rfl rfl (nsame_c La hLa _ _ _ _ _ (by first | exact own_rds 0 rfl | exact own_rds 1 rfl | exact own_rds 2 rfl | exact own_rds 3 rfl | exact own_rds 4 rfl | exact own_rds 5 rfl | exact own_rds 6 rfl | exact own_rds 7 rfl | exact own_rds 8 rfl | exact own_rds 9 rfl | assumption) (by first | exact own_rds 0 rfl | exact own_rds 1 rfl | exact own_rds 2 rfl | exact own_rds 3 rfl | exact own_rds 4 rfl | exact own_rds 5 rfl | exact own_rds 6 rfl | exact own_rds 7 rfl | exact own_rds 8 rfl | exact own_rds 9 rfl | assumption) (by omega)) (by decide) ?_))
         | ((refine z_iscallf 11 ?_; refine z_isdst 116 ?_; refine o_callr rfl Try.func11 rfl rfl rfl (nsame_c L hL _ _ _ _ _ (by first | exact own_rds 0 rfl | exact own_rds 1 rfl | exact own_rds 2 rfl | exact own_rds 3 rfl | exact own_rds 4 rfl | exact own_rds 5 rfl | exact own_rds 6 rfl | exact own_rds 7 rfl | exact own_rds 8 rfl | exact own_rds 9 rfl | assumption) (by first | exact own_rds 0 rfl | exact own_rds 1 rfl | exact own_rds 2 rfl | exact own_rds 3 rfl | exact own_rds 4 rfl | exact own_rds 5 rfl | exact own_rds 6 rfl | exact own_rds 7 rfl | exact own_rds 8 rfl | exact own_rds 9 rfl | assumption) (by omega)) (by decide) ?_))
         | ((refine z_iscallf 18 ?_; refine o_fn rfl Try.func18 rfl rfl rfl (nawake_p) (by decide) ?_))
         | ((refine z_iscallf 10 ?_; refine o_calla Try.func10 rfl rfl rfl (made_cL D L hM A0 c0 _ (Rds.cons _ hrd0) hx) (by decide) fun x _ => ?_))
         | ((refine z_iscallf 11 ?_; refine z_isdst 26 ?_; refine o_callr rfl Try.func11 rfl rfl rfl (nsame_c L hL _ _ _ _ _ (by first | exact own_rds 0 rfl | exact own_rds 1 rfl | exact own_rds 2 rfl | exact own_rds 3 rfl | exact own_rds 4 rfl | exact own_rds 5 rfl | exact own_rds 6 rfl | exact own_rds 7 rfl | exact own_rds 8 rfl | exact own_rds 9 rfl | assumption) (by first | exact own_rds 0 rfl | exact own_rds 1 rfl | exact own_rds 2 rfl | exact own_rds 3 rfl | exact own_rds 4 rfl | exact own_rds 5 rfl | exact own_rds 6 rfl | exact own_rds 7 rfl | exact own_rds 8 rfl | exact own_rds 9 rfl | assumption) (by omega)) (by decide) ?_))
         | ((refine z_iscallf 11 ?_; refine z_isdst 125 ?_; refine o_callr rfl Try.func11 rfl rfl rfl (nsame_c L hL _ _ _ _ _ (by first | exact own_rds 0 rfl | exact own_rds 1 rfl | exact own_rds 2 rfl | exact own_rds 3 rfl | exact own_rds 4 rfl | exact own_rds 5 rfl | exact own_rds 6 rfl | exact own_rds 7 rfl | exact own_rds 8 rfl | exact own_rds 9 rfl | assumption) (by first | exact own_rds 0 rfl | exact own_rds 1 rfl | exact own_rds 2 rfl | exact own_rds 3 rfl | exact own_rds 4 rfl | exact own_rds 5 rfl | exact own_rds 6 rfl | exact own_rds 7 rfl | exact own_rds 8 rfl | exact own_rds 9 rfl | assumption) (by omega)) (by decide) ?_))
         | ((refine z_iscallf 12 ?_; first | refine o_calla Try.func12 rfl rfl rfl (add_yes L La q _ _ _ _ (by first | exact own_rds 0 rfl | exact own_rds 1 rfl | exact own_rds 2 rfl | exact own_rds 3 rfl | exact own_rds 4 rfl | exact own_rds 5 rfl | exact own_rds 6 rfl | exact own_rds 7 rfl | exact own_rds 8 rfl | exact own_rds 9 rfl | assumption) (by omega) ha) (by decide) fun u _ => ?_ | refine o_callr rfl Try.func12 rfl rfl rfl (add_no L _ _ _ _ (by first | exact own_rds 0 rfl | exact own_rds 1 rfl | exact own_rds 2 rfl | exact own_rds 3 rfl | exact own_rds 4 rfl | exact own_rds 5 rfl | exact own_rds 6 rfl | exact own_rds 7 rfl | exact own_rds 8 rfl | exact own_rds 9 rfl | assumption) (by omega) ha) (by decide) ?_))
         | ((refine z_iscallf 13 ?_; first | refine o_calla Try.func13 rfl rfl rfl (radd_yes L La q hL _ _ _ _ (by first | exact own_rds 0 rfl | exact own_rds 1 rfl | exact own_rds 2 rfl | exact own_rds 3 rfl | exact own_rds 4 rfl | exact own_rds 5 rfl | exact own_rds 6 rfl | exact own_rds 7 rfl | exact own_rds 8 rfl | exact own_rds 9 rfl | assumption) (by omega) ha) (by decide) fun u2 _ => ?_ | refine o_callr rfl Try.func13 rfl rfl rfl (radd_no L hL _ _ _ _ (by first | exact own_rds 0 rfl | exact own_rds 1 rfl | exact own_rds 2 rfl | exact own_rds 3 rfl | exact own_rds 4 rfl | exact own_rds 5 rfl | exact own_rds 6 rfl | exact own_rds 7 rfl | exact own_rds 8 rfl | exact own_rds 9 rfl | assumption) (by omega) ha) (by decide) ?_))
         | ((refine z_iscallf 14 ?_; first | refine o_calla Try.func14 rfl rfl rfl (drop_yes L Ld hL _ _ _ _ (by first | exact own_rds 0 rfl | exact own_rds 1 rfl | exact own_rds 2 rfl | exact own_rds 3 rfl | exact own_rds 4 rfl | exact own_rds 5 rfl | exact own_rds 6 rfl | exact own_rds 7 rfl | exact own_rds 8 rfl | exact own_rds 9 rfl | assumption) (by omega) hd) (by decide) fun v _ => ?_ | refine o_callr rfl Try.func14 rfl rfl rfl (drop_no L hL _ _ _ _ (by first | exact own_rds 0 rfl | exact own_rds 1 rfl | exact own_rds 2 rfl | exact own_rds 3 rfl | exact own_rds 4 rfl | exact own_rds 5 rfl | exact own_rds 6 rfl | exact own_rds 7 rfl | exact own_rds 8 rfl | exact own_rds 9 rfl | assumption) (by omega) hd) (by decide) ?_))
         | ((refine z_iscallf 15 ?_; first | refine o_calla Try.func15 rfl rfl rfl (rdrop_yes L Ld _ _ _ _ (by first | exact own_rds 0 rfl | exact own_rds 1 rfl | exact own_rds 2 rfl | exact own_rds 3 rfl | exact own_rds 4 rfl | exact own_rds 5 rfl | exact own_rds 6 rfl | exact own_rds 7 rfl | exact own_rds 8 rfl | exact own_rds 9 rfl | assumption) (by omega) hd) (by decide) fun v2 _ => ?_ | refine o_callr rfl Try.func15 rfl rfl rfl (rdrop_no L _ _ _ _ (by first | exact own_rds 0 rfl | exact own_rds 1 rfl | exact own_rds 2 rfl | exact own_rds 3 rfl | exact own_rds 4 rfl | exact own_rds 5 rfl | exact own_rds 6 rfl | exact own_rds 7 rfl | exact own_rds 8 rfl | exact own_rds 9 rfl | assumption) (by omega) hd) (by decide) ?_))
         | ((refine z_iscallf 16 ?_; refine o_callr rfl Try.func16 rfl rfl rfl (find_cv L _ _ _ _ (by first | exact own_rds 0 rfl | exact own_rds 1 rfl | exact own_rds 2 rfl | exact own_rds 3 rfl | exact own_rds 4 rfl | exact own_rds 5 rfl | exact own_rds 6 rfl | exact own_rds 7 rfl | exact own_rds 8 rfl | exact own_rds 9 rfl | assumption) (by omega)) (by decide) ?_))
         | ((refine z_iscallf 17 ?_; refine o_callr rfl Try.func17 rfl rfl rfl (rfind_c L _ _ _ _ (by first | exact own_rds 0 rfl | exact own_rds 1 rfl | exact own_rds 2 rfl | exact own_rds 3 rfl | exact own_rds 4 rfl | exact own_rds 5 rfl | exact own_rds 6 rfl | exact own_rds 7 rfl | exact own_rds 8 rfl | exact own_rds 9 rfl | assumption) (by omega)) (by decide) ?_)))
         | (refine z_ispick ?_; first
         | (refine o_pick1 rfl (by first | with_reducible rfl | with_reducible assumption | ((with_reducible refine decide_eq_true ?_); first | with_reducible rfl | with_reducible assumption | omega)) rfl (by decide) ?_)
         | (refine o_pick0 rfl (by first | with_reducible rfl | with_reducible assumption | ((with_reducible refine decide_eq_false ?_); first | with_reducible assumption | omega)) rfl (by decide) ?_)
         | (refine o_pick1 rfl (by first | (simp only [Bool.not_eq_true', decide_eq_false_iff_not]; omega) | (with_reducible assumption) | (rw [decide_eq_false] <;> (first | omega | with_reducible rfl)) | (rw [decide_eq_true] <;> (first | omega | with_reducible rfl)) | (simp; done) | (simp; omega)) rfl (by decide) ?_)
         | (refine o_pick0 rfl (by first | (simp only [Bool.not_eq_false', decide_eq_true_eq]; omega) | (with_reducible assumption) | (rw [decide_eq_false] <;> (first | omega | with_reducible rfl)) | (rw [decide_eq_true] <;> (first | omega | with_reducible rfl)) | (simp; done) | (simp; omega)) rfl (by decide) ?_))
         | refine o_move rfl (by decide) ?_
         | refine o_assign rfl (by decide) ?_
         | refine o_nil rfl (by decide) ?_
         | refine o_extract rfl rfl (by decide) ?_
         | refine o_not rfl (by decide) ?_
         | refine o_field0 tabOk rfl rfl rfl rfl rfl (by decide) ?_
         | refine o_field tabOk rfl rfl rfl rfl rfl (by decide) ?_
         | refine o_conv tabOk rfl rfl rfl (by decide) ?_))
  | none =>
    cases hd : drL L n with
    | some Ld =>
      have hLd := hL.dr hd
      have hld := dr_len hd
      rcases hff with ⟨hf1, hf2⟩ | ⟨hf1, hf2, hf3⟩
      · skip
        repeat' (first
         | (refine s_is ?_; first
         | (refine s_isret ?_; first
         | exact f_r1 rfl (res_t rfl) () trivial rfl (fun w h => ((h.sel 9 [8, 0, 1, 2, 3, 4, 5, 6, 7] (by decide)).mask [true, false, false, false, false, false, false, false, false])))
         | (refine s_isw ?_; first
         | refine c_seq ?_
         | refine c_block ?_
         | refine c_region ?_
         | refine c_mixed mixed (by kernel_rfl) ?_
         | refine c_skip ?_
         | refine c_ret ?_
         | refine c_exit ?_
         | (refine s_iscond ?_; first
         | (refine c_true rfl (by first | with_reducible rfl | with_reducible assumption | ((with_reducible refine decide_eq_true ?_); first | with_reducible rfl | with_reducible assumption | omega)) ?_)
         | (refine c_false rfl (by first | with_reducible rfl | with_reducible assumption | ((with_reducible refine decide_eq_false ?_); first | with_reducible assumption | omega)) ?_)
         | (refine c_true rfl (by first | (simp only [Bool.not_eq_true', decide_eq_false_iff_not]; omega) | (with_reducible assumption) | (rw [decide_eq_false] <;> (first | omega | with_reducible rfl)) | (rw [decide_eq_true] <;> (first | omega | with_reducible rfl)) | (simp; done) | (simp; omega)) ?_)
         | (refine c_false rfl (by first | (simp only [Bool.not_eq_false', decide_eq_true_eq]; omega) | (with_reducible assumption) | (rw [decide_eq_false] <;> (first | omega | with_reducible rfl)) | (rw [decide_eq_true] <;> (first | omega | with_reducible rfl)) | (simp; done) | (simp; omega)) ?_)
         | refine c_cond rfl (fun hc => ?_) (fun hc => ?_)
         | refine c_condb rfl (fun hc => ?_) (fun hc => ?_)))
         | refine x_then ?_
         | refine x_then_ret ?_
         | refine x_then_exit ?_
         | refine x_block _ ?_
         | refine x_block_ret _ ?_
         | refine x_block_exit _ ?_
         | refine x_block_past (by decide) ?_
         | refine z_tailm ?_)
         | (refine z_isg1 ?_; first
         | refine z_skipu (by decide) rfl rfl ?_
         | (refine z_want1 rfl rfl (by first | with_reducible rfl | with_reducible assumption | ((with_reducible refine decide_eq_true ?_); first | with_reducible rfl | with_reducible assumption | omega)) ?_)
         | (refine z_skip1 (by decide) rfl rfl (by first | with_reducible rfl | with_reducible assumption | ((with_reducible refine decide_eq_false ?_); first | with_reducible assumption | omega)) ?_)
         | (refine z_want1 rfl rfl (by first | (simp only [Bool.not_eq_true', decide_eq_false_iff_not]; omega) | (with_reducible assumption) | (rw [decide_eq_false] <;> (first | omega | with_reducible rfl)) | (rw [decide_eq_true] <;> (first | omega | with_reducible rfl)) | (simp; done) | (simp; omega)) ?_)
         | (refine z_skip1 (by decide) rfl rfl (by first | (simp only [Bool.not_eq_false', decide_eq_true_eq]; omega) | (with_reducible assumption) | (rw [decide_eq_false] <;> (first | omega | with_reducible rfl)) | (rw [decide_eq_true] <;> (first | omega | with_reducible rfl)) | (simp; done) | (simp; omega)) ?_)
         | refine z_guard1 (by decide) rfl rfl (fun hc => ?_) (fun hc => ?_)
         | refine z_guardb (by decide) rfl rfl (fun hc => ?_) (fun hc => ?_))
         | (refine z_isg0 ?_; first
         | refine z_skipu (by decide) rfl rfl ?_
         | (refine z_want0 rfl rfl (by first | with_reducible rfl | with_reducible assumption | ((with_reducible refine decide_eq_false ?_); first | with_reducible assumption | omega)) ?_)
         | (refine z_skip0 (by decide) rfl rfl (by first | with_reducible rfl | with_reducible assumption | ((with_reducible refine decide_eq_true ?_); first | with_reducible rfl | with_reducible assumption | omega)) ?_)
         | (refine z_want0 rfl rfl (by first | (simp only [Bool.not_eq_false', decide_eq_true_eq]; omega) | (with_reducible assumption) | (rw [decide_eq_false] <;> (first | omega | with_reducible rfl)) | (rw [decide_eq_true] <;> (first | omega | with_reducible rfl)) | (simp; done) | (simp; omega)) ?_)
         | (refine z_skip0 (by decide) rfl rfl (by first | (simp only [Bool.not_eq_true', decide_eq_false_iff_not]; omega) | (with_reducible assumption) | (rw [decide_eq_false] <;> (first | omega | with_reducible rfl)) | (rw [decide_eq_true] <;> (first | omega | with_reducible rfl)) | (simp; done) | (simp; omega)) ?_)
         | refine z_guard0 (by decide) rfl rfl (fun hc => ?_) (fun hc => ?_)
         | refine z_guardb (by decide) rfl rfl (fun hc => ?_) (fun hc => ?_))
         | (refine z_isnil ?_; first
         | refine z_list ?_
         | refine z_mixed ?_
         | refine z_mono0 ?_
         | refine z_mono1 (by decide) fun g => ?_
         | refine z_mono2 (by decide) (by decide) fun g g' => ?_
         | refine z_mixedx ?_
         | refine z_quiet ?_)
         | (refine z_isop ?_; first
         | refine o_alloca (e := 27) (vs := [.slice none 0 0]) rfl (by kernel_rfl) (by decide) fun g => ?_
         | refine o_boxa (vs := [.int .i64 k, .int .i64 n]) rfl rfl (by decide) fun g3 => ?_
         | (refine z_isbin ?_; first
         | (refine z_isb .eql ?_; first
         | refine o_eq rfl rfl (by decide) ?_
         | refine o_beq tabOk rfl rfl rfl (by decide) ?_
         | refine o_peq tabOk rfl rfl (by decide) ?_)
         | (refine z_isb .neq ?_; first
         | refine o_ne rfl rfl (by decide) ?_
         | refine o_bne tabOk rfl rfl rfl (by decide) ?_
         | refine o_pne tabOk rfl rfl (by decide) ?_)
         | (refine z_isb .geq ?_; first
         | refine o_ge rfl rfl (by decide) ?_))
         | (refine z_isload ?_; first
         | (refine z_ld1 tabOk rfl rfl ?_; first
         | refine o_loadm tabOk rfl rfl rfl (by repeat' (first | exact List.mem_cons_self | apply List.mem_cons_of_mem)) (by first | exact il_at _ (by omega) | rfl | rfl) (by decide) ?_
         | refine o_loads tabOk (by first | exact own_rds 0 rfl | exact own_rds 1 rfl | exact own_rds 2 rfl | exact own_rds 3 rfl | exact own_rds 4 rfl | exact own_rds 5 rfl | exact own_rds 6 rfl | exact own_rds 7 rfl | exact own_rds 8 rfl | exact own_rds 9 rfl | assumption) rfl rfl rfl (by first | exact il_at _ (by omega) | rfl | rfl) (by decide) ?_)
         | (refine z_ldw tabOk rfl rfl ?_; first
         | refine o_loadwm tabOk rfl rfl rfl (by repeat' (first | exact List.mem_cons_self | apply List.mem_cons_of_mem)) (by first | rfl | rfl) (by decide) ?_))
         | (refine z_isstore ?_; first
         | (refine z_stw rfl ?_; first
         | ((refine z_sti 0 rfl rfl ?_; refine o_storeb0 rfl tabOk rfl rfl rfl (by first | rfl | rfl) (by first | rfl | rfl) (by first | rfl | rfl) ?_))
         | ((refine z_sti 1 rfl rfl ?_; refine o_storeb1 rfl tabOk rfl rfl rfl (by first | rfl | rfl) (by first | rfl | rfl) (by first | rfl | rfl) ?_))
         | ((refine z_sti 2 rfl rfl ?_; refine o_storeb2 rfl tabOk rfl rfl rfl (by first | rfl | rfl) (by first | rfl | rfl) (by first | rfl | rfl) ?_))
         | ((refine z_sti 3 rfl rfl ?_; refine o_storeb3 rfl tabOk rfl rfl rfl (by first | rfl | rfl) (by first | rfl | rfl) (by first | rfl | rfl) ?_))
         | ((refine z_sti 4 rfl rfl ?_; refine o_storeb4 rfl tabOk rfl rfl rfl (by first | rfl | rfl) (by first | rfl | rfl) (by first | rfl | rfl) ?_))
         | ((refine z_sti 5 rfl rfl ?_; refine o_storeb5 rfl tabOk rfl rfl rfl (by first | rfl | rfl) (by first | rfl | rfl) (by first | rfl | rfl) ?_))
         | ((refine z_sti 6 rfl rfl ?_; refine o_storeb6 rfl tabOk rfl rfl rfl (by first | rfl | rfl) (by first | rfl | rfl) (by first | rfl | rfl) ?_)))
         | (refine z_st1 rfl rfl ?_; first
         | refine o_store rfl tabOk rfl rfl rfl rfl rfl (by first | exact il_at _ (by omega) | rfl | rfl) (by first | rfl) ?_
         | ((refine z_sti 1 rfl rfl ?_; refine o_store1 rfl tabOk rfl rfl rfl rfl rfl (by first | exact il_at _ (by omega) | rfl | rfl) (by first | rfl) ?_))
         | ((refine z_sti 2 rfl rfl ?_; refine o_store2 rfl tabOk rfl rfl rfl rfl rfl (by first | exact il_at _ (by omega) | rfl | rfl) (by first | rfl) ?_))
         | ((refine z_sti 3 rfl rfl ?_; refine o_store3 rfl tabOk rfl rfl rfl rfl rfl (by first | exact il_at _ (by omega) | rfl | rfl) (by first | rfl) ?_))
         | ((refine z_sti 4 rfl rfl ?_; refine o_store4 rfl tabOk rfl rfl rfl rfl rfl (by first | exact il_at _ (by omega) | rfl | rfl) (by first | rfl) ?_))
         | ((refine z_sti 5 rfl rfl ?_; refine o_store5 rfl tabOk rfl rfl rfl rfl rfl (by first | exact il_at _ (by omega) | rfl | rfl) (by first | rfl) ?_))
         | ((refine z_sti 6 rfl rfl ?_; refine o_store6 rfl tabOk rfl rfl rfl rfl rfl (by first | exact il_at _ (by omega) | rfl | rfl) (by first | rfl) ?_))))
         | (refine z_iscall ?_; first
         | ((refine z_iscallf 11 ?_; refine z_isdst 45 ?_; refine o_callr rfl Try.func11 rfl rfl rfl (nsame_c L hL _ _ _ _ _ (by first | exact own_rds 0 rfl | exact own_rds 1 rfl | exact own_rds 2 rfl | exact own_rds 3 rfl | exact own_rds 4 rfl | exact own_rds 5 rfl | exact own_rds 6 rfl | exact own_rds 7 rfl | exact own_rds 8 rfl | exact own_rds 9 rfl | assumption) (by first | exact own_rds 0 rfl | exact own_rds 1 rfl | exact own_rds 2 rfl | exact own_rds 3 rfl | exact own_rds 4 rfl | exact own_rds 5 rfl | exact own_rds 6 rfl | exact own_rds 7 rfl | exact own_rds 8 rfl | exact own_rds 9 rfl | assumption) (by omega)) (by decide) ?_))
         | ((refine z_iscallf 11 ?_; refine z_isdst 116 ?_; refine o_callr rfl Try.func11 rfl rfl rfl (nsame_c Ld hLd _ _ _ _ _ (by first | exact own_rds 0 rfl | exact own_rds 1 rfl | exact own_rds 2 rfl | exact own_rds 3 rfl | exact own_rds 4 rfl | exact own_rds 5 rfl | exact own_rds 6 rfl | exact own_rds 7 rfl | exact own_rds 8 rfl | exact own_rds 9 rfl | assumption) (by first | exact own_rds 0 rfl | exact own_rds 1 rfl | exact own_rds 2 rfl | exact own_rds 3 rfl | exact own_rds 4 rfl | exact own_rds 5 rfl | exact own_rds 6 rfl | exact own_rds 7 rfl | exact own_rds 8 rfl | exact own_rds 9 rfl | assumption) (by omega)) (by decide) ?_))
         | ((refine z_iscallf 18 ?_; refine o_fn rfl Try.func18 rfl rfl rfl (nawake_p) (by decide) ?_))
         | ((refine z_iscallf 10 ?_; refine o_calla Try.func10 rfl rfl rfl (made_cL D L hM A0 c0 _ (Rds.cons _ hrd0) hx) (by decide) fun x _ => ?_))
         | ((refine z_iscallf 11 ?_; refine z_isdst 26 ?_; refine o_callr rfl Try.func11 rfl rfl rfl (nsame_c L hL _ _ _ _ _ (by first | exact own_rds 0 rfl | exact own_rds 1 rfl | exact own_rds 2 rfl | exact own_rds 3 rfl | exact own_rds 4 rfl | exact own_rds 5 rfl | exact own_rds 6 rfl | exact own_rds 7 rfl | exact own_rds 8 rfl | exact own_rds 9 rfl | assumption) (by first | exact own_rds 0 rfl | exact own_rds 1 rfl | exact own_rds 2 rfl | exact own_rds 3 rfl | exact own_rds 4 rfl | exact own_rds 5 rfl | exact own_rds 6 rfl | exact own_rds 7 rfl | exact own_rds 8 rfl | exact own_rds 9 rfl | assumption) (by omega)) (by decide) ?_))
         | ((refine z_iscallf 11 ?_; refine z_isdst 125 ?_; refine o_callr rfl Try.func11 rfl rfl rfl (nsame_c L hL _ _ _ _ _ (by first | exact own_rds 0 rfl | exact own_rds 1 rfl | exact own_rds 2 rfl | exact own_rds 3 rfl | exact own_rds 4 rfl | exact own_rds 5 rfl | exact own_rds 6 rfl | exact own_rds 7 rfl | exact own_rds 8 rfl | exact own_rds 9 rfl | assumption) (by first | exact own_rds 0 rfl | exact own_rds 1 rfl | exact own_rds 2 rfl | exact own_rds 3 rfl | exact own_rds 4 rfl | exact own_rds 5 rfl | exact own_rds 6 rfl | exact own_rds 7 rfl | exact own_rds 8 rfl | exact own_rds 9 rfl | assumption) (by omega)) (by decide) ?_))
         | ((refine z_iscallf 12 ?_; first | refine o_calla Try.func12 rfl rfl rfl (add_yes L La q _ _ _ _ (by first | exact own_rds 0 rfl | exact own_rds 1 rfl | exact own_rds 2 rfl | exact own_rds 3 rfl | exact own_rds 4 rfl | exact own_rds 5 rfl | exact own_rds 6 rfl | exact own_rds 7 rfl | exact own_rds 8 rfl | exact own_rds 9 rfl | assumption) (by omega) ha) (by decide) fun u _ => ?_ | refine o_callr rfl Try.func12 rfl rfl rfl (add_no L _ _ _ _ (by first | exact own_rds 0 rfl | exact own_rds 1 rfl | exact own_rds 2 rfl | exact own_rds 3 rfl | exact own_rds 4 rfl | exact own_rds 5 rfl | exact own_rds 6 rfl | exact own_rds 7 rfl | exact own_rds 8 rfl | exact own_rds 9 rfl | assumption) (by omega) ha) (by decide) ?_))
         | ((refine z_iscallf 13 ?_; first | refine o_calla Try.func13 rfl rfl rfl (radd_yes L La q hL _ _ _ _ (by first | exact own_rds 0 rfl | exact own_rds 1 rfl | exact own_rds 2 rfl | exact own_rds 3 rfl | exact own_rds 4 rfl | exact own_rds 5 rfl | exact own_rds 6 rfl | exact own_rds 7 rfl | exact own_rds 8 rfl | exact own_rds 9 rfl | assumption) (by omega) ha) (by decide) fun u2 _ => ?_ | refine o_callr rfl Try.func13 rfl rfl rfl (radd_no L hL _ _ _ _ (by first | exact own_rds 0 rfl | exact own_rds 1 rfl | exact own_rds 2 rfl | exact own_rds 3 rfl | exact own_rds 4 rfl | exact own_rds 5 rfl | exact own_rds 6 rfl | exact own_rds 7 rfl | exact own_rds 8 rfl | exact own_rds 9 rfl | assumption) (by omega) ha) (by decide) ?_))
         | ((refine z_iscallf 14 ?_; first | refine o_calla Try.func14 rfl rfl rfl (drop_yes L Ld hL _ _ _ _ (by first | exact own_rds 0 rfl | exact own_rds 1 rfl | exact own_rds 2 rfl | exact own_rds 3 rfl | exact own_rds 4 rfl | exact own_rds 5 rfl | exact own_rds 6 rfl | exact own_rds 7 rfl | exact own_rds 8 rfl | exact own_rds 9 rfl | assumption) (by omega) hd) (by decide) fun v _ => ?_ | refine o_callr rfl Try.func14 rfl rfl rfl (drop_no L hL _ _ _ _ (by first | exact own_rds 0 rfl | exact own_rds 1 rfl | exact own_rds 2 rfl | exact own_rds 3 rfl | exact own_rds 4 rfl | exact own_rds 5 rfl | exact own_rds 6 rfl | exact own_rds 7 rfl | exact own_rds 8 rfl | exact own_rds 9 rfl | assumption) (by omega) hd) (by decide) ?_))
         | ((refine z_iscallf 15 ?_; first | refine o_calla Try.func15 rfl rfl rfl (rdrop_yes L Ld _ _ _ _ (by first | exact own_rds 0 rfl | exact own_rds 1 rfl | exact own_rds 2 rfl | exact own_rds 3 rfl | exact own_rds 4 rfl | exact own_rds 5 rfl | exact own_rds 6 rfl | exact own_rds 7 rfl | exact own_rds 8 rfl | exact own_rds 9 rfl | assumption) (by omega) hd) (by decide) fun v2 _ => ?_ | refine o_callr rfl Try.func15 rfl rfl rfl (rdrop_no L _ _ _ _ (by first | exact own_rds 0 rfl | exact own_rds 1 rfl | exact own_rds 2 rfl | exact own_rds 3 rfl | exact own_rds 4 rfl | exact own_rds 5 rfl | exact own_rds 6 rfl | exact own_rds 7 rfl | exact own_rds 8 rfl | exact own_rds 9 rfl | assumption) (by omega) hd) (by decide) ?_))
         | ((refine z_iscallf 16 ?_; refine o_callr rfl Try.func16 rfl rfl rfl (find_cv L _ _ _ _ (by first | exact own_rds 0 rfl | exact own_rds 1 rfl | exact own_rds 2 rfl | exact own_rds 3 rfl | exact own_rds 4 rfl | exact own_rds 5 rfl | exact own_rds 6 rfl | exact own_rds 7 rfl | exact own_rds 8 rfl | exact own_rds 9 rfl | assumption) (by omega)) (by decide) ?_))
         | ((refine z_iscallf 17 ?_; refine o_callr rfl Try.func17 rfl rfl rfl (rfind_c L _ _ _ _ (by first | exact own_rds 0 rfl | exact own_rds 1 rfl | exact own_rds 2 rfl | exact own_rds 3 rfl | exact own_rds 4 rfl | exact own_rds 5 rfl | exact own_rds 6 rfl | exact own_rds 7 rfl | exact own_rds 8 rfl | exact own_rds 9 rfl | assumption) (by omega)) (by decide) ?_)))
         | (refine z_ispick ?_; first
         | (refine o_pick1 rfl (by first | with_reducible rfl | with_reducible assumption | ((with_reducible refine decide_eq_true ?_); first | with_reducible rfl | with_reducible assumption | omega)) rfl (by decide) ?_)
         | (refine o_pick0 rfl (by first | with_reducible rfl | with_reducible assumption | ((with_reducible refine decide_eq_false ?_); first | with_reducible assumption | omega)) rfl (by decide) ?_)
         | (refine o_pick1 rfl (by first | (simp only [Bool.not_eq_true', decide_eq_false_iff_not]; omega) | (with_reducible assumption) | (rw [decide_eq_false] <;> (first | omega | with_reducible rfl)) | (rw [decide_eq_true] <;> (first | omega | with_reducible rfl)) | (simp; done) | (simp; omega)) rfl (by decide) ?_)
         | (refine o_pick0 rfl (by first | (simp only [Bool.not_eq_false', decide_eq_true_eq]; omega) | (with_reducible assumption) | (rw [decide_eq_false] <;> (first | omega | with_reducible rfl)) | (rw [decide_eq_true] <;> (first | omega | with_reducible rfl)) | (simp; done) | (simp; omega)) rfl (by decide) ?_))
         | refine o_move rfl (by decide) ?_
         | refine o_assign rfl (by decide) ?_
         | refine o_nil rfl (by decide) ?_
         | refine o_extract rfl rfl (by decide) ?_
         | refine o_not rfl (by decide) ?_
         | refine o_field0 tabOk rfl rfl rfl rfl rfl (by decide) ?_
         | refine o_field tabOk rfl rfl rfl rfl rfl (by decide) ?_
         | refine o_conv tabOk rfl rfl rfl (by decide) ?_))
      · skip
        repeat' (first
         | (refine s_is ?_; first
         | (refine s_isret ?_; first
         | exact f_r1 rfl (res_t rfl) () trivial rfl (fun w h => ((h.sel 9 [8, 0, 1, 2, 3, 4, 5, 6, 7] (by decide)).mask [true, false, false, false, false, false, false, false, false])))
         | (refine s_isw ?_; first
         | refine c_seq ?_
         | refine c_block ?_
         | refine c_region ?_
         | refine c_mixed mixed (by kernel_rfl) ?_
         | refine c_skip ?_
         | refine c_ret ?_
         | refine c_exit ?_
         | (refine s_iscond ?_; first
         | (refine c_true rfl (by first | with_reducible rfl | with_reducible assumption | ((with_reducible refine decide_eq_true ?_); first | with_reducible rfl | with_reducible assumption | omega)) ?_)
         | (refine c_false rfl (by first | with_reducible rfl | with_reducible assumption | ((with_reducible refine decide_eq_false ?_); first | with_reducible assumption | omega)) ?_)
         | (refine c_true rfl (by first | (simp only [Bool.not_eq_true', decide_eq_false_iff_not]; omega) | (with_reducible assumption) | (rw [decide_eq_false] <;> (first | omega | with_reducible rfl)) | (rw [decide_eq_true] <;> (first | omega | with_reducible rfl)) | (simp; done) | (simp; omega)) ?_)
         | (refine c_false rfl (by first | (simp only [Bool.not_eq_false', decide_eq_true_eq]; omega) | (with_reducible assumption) | (rw [decide_eq_false] <;> (first | omega | with_reducible rfl)) | (rw [decide_eq_true] <;> (first | omega | with_reducible rfl)) | (simp; done) | (simp; omega)) ?_)
         | refine c_cond rfl (fun hc => ?_) (fun hc => ?_)
         | refine c_condb rfl (fun hc => ?_) (fun hc => ?_)))
         | refine x_then ?_
         | refine x_then_ret ?_
         | refine x_then_exit ?_
         | refine x_block _ ?_
         | refine x_block_ret _ ?_
         | refine x_block_exit _ ?_
         | refine x_block_past (by decide) ?_
         | refine z_tailm ?_)
         | (refine z_isg1 ?_; first
         | refine z_skipu (by decide) rfl rfl ?_
         | (refine z_want1 rfl rfl (by first | with_reducible rfl | with_reducible assumption | ((with_reducible refine decide_eq_true ?_); first | with_reducible rfl | with_reducible assumption | omega)) ?_)
         | (refine z_skip1 (by decide) rfl rfl (by first | with_reducible rfl | with_reducible assumption | ((with_reducible refine decide_eq_false ?_); first | with_reducible assumption | omega)) ?_)
         | (refine z_want1 rfl rfl (by first | (simp only [Bool.not_eq_true', decide_eq_false_iff_not]; omega) | (with_reducible assumption) | (rw [decide_eq_false] <;> (first | omega | with_reducible rfl)) | (rw [decide_eq_true] <;> (first | omega | with_reducible rfl)) | (simp; done) | (simp; omega)) ?_)
         | (refine z_skip1 (by decide) rfl rfl (by first | (simp only [Bool.not_eq_false', decide_eq_true_eq]; omega) | (with_reducible assumption) | (rw [decide_eq_false] <;> (first | omega | with_reducible rfl)) | (rw [decide_eq_true] <;> (first | omega | with_reducible rfl)) | (simp; done) | (simp; omega)) ?_)
         | refine z_guard1 (by decide) rfl rfl (fun hc => ?_) (fun hc => ?_)
         | refine z_guardb (by decide) rfl rfl (fun hc => ?_) (fun hc => ?_))
         | (refine z_isg0 ?_; first
         | refine z_skipu (by decide) rfl rfl ?_
         | (refine z_want0 rfl rfl (by first | with_reducible rfl | with_reducible assumption | ((with_reducible refine decide_eq_false ?_); first | with_reducible assumption | omega)) ?_)
         | (refine z_skip0 (by decide) rfl rfl (by first | with_reducible rfl | with_reducible assumption | ((with_reducible refine decide_eq_true ?_); first | with_reducible rfl | with_reducible assumption | omega)) ?_)
         | (refine z_want0 rfl rfl (by first | (simp only [Bool.not_eq_false', decide_eq_true_eq]; omega) | (with_reducible assumption) | (rw [decide_eq_false] <;> (first | omega | with_reducible rfl)) | (rw [decide_eq_true] <;> (first | omega | with_reducible rfl)) | (simp; done) | (simp; omega)) ?_)
         | (refine z_skip0 (by decide) rfl rfl (by first | (simp only [Bool.not_eq_true', decide_eq_false_iff_not]; omega) | (with_reducible assumption) | (rw [decide_eq_false] <;> (first | omega | with_reducible rfl)) | (rw [decide_eq_true] <;> (first | omega | with_reducible rfl)) | (simp; done) | (simp; omega)) ?_)
         | refine z_guard0 (by decide) rfl rfl (fun hc => ?_) (fun hc => ?_)
         | refine z_guardb (by decide) rfl rfl (fun hc => ?_) (fun hc => ?_))
         | (refine z_isnil ?_; first
         | refine z_list ?_
         | refine z_mixed ?_
         | refine z_mono0 ?_
         | refine z_mono1 (by decide) fun g => ?_
         | refine z_mono2 (by decide) (by decide) fun g g' => ?_
         | refine z_mixedx ?_
         | refine z_quiet ?_)
         | (refine z_isop ?_; first
         | refine o_alloca (e := 27) (vs := [.slice none 0 0]) rfl (by kernel_rfl) (by decide) fun g => ?_
         | refine o_boxa (vs := [.int .i64 k, .int .i64 n]) rfl rfl (by decide) fun g3 => ?_
         | (refine z_isbin ?_; first
         | (refine z_isb .eql ?_; first
         | refine o_eq rfl rfl (by decide) ?_
         | refine o_beq tabOk rfl rfl rfl (by decide) ?_
         | refine o_peq tabOk rfl rfl (by decide) ?_)
         | (refine z_isb .neq ?_; first
         | refine o_ne rfl rfl (by decide) ?_
         | refine o_bne tabOk rfl rfl rfl (by decide) ?_
         | refine o_pne tabOk rfl rfl (by decide) ?_)
         | (refine z_isb .geq ?_; first
         | refine o_ge rfl rfl (by decide) ?_))
         | (refine z_isload ?_; first
         | (refine z_ld1 tabOk rfl rfl ?_; first
         | refine o_loadm tabOk rfl rfl rfl (by repeat' (first | exact List.mem_cons_self | apply List.mem_cons_of_mem)) (by first | exact il_at _ (by omega) | rfl | rfl) (by decide) ?_
         | refine o_loads tabOk (by first | exact own_rds 0 rfl | exact own_rds 1 rfl | exact own_rds 2 rfl | exact own_rds 3 rfl | exact own_rds 4 rfl | exact own_rds 5 rfl | exact own_rds 6 rfl | exact own_rds 7 rfl | exact own_rds 8 rfl | exact own_rds 9 rfl | assumption) rfl rfl rfl (by first | exact il_at _ (by omega) | rfl | rfl) (by decide) ?_)
         | (refine z_ldw tabOk rfl rfl ?_; first
         | refine o_loadwm tabOk rfl rfl rfl (by repeat' (first | exact List.mem_cons_self | apply List.mem_cons_of_mem)) (by first | rfl | rfl) (by decide) ?_))
         | (refine z_isstore ?_; first
         | (refine z_stw rfl ?_; first
         | ((refine z_sti 0 rfl rfl ?_; refine o_storeb0 rfl tabOk rfl rfl rfl (by first | rfl | rfl) (by first | rfl | rfl) (by first | rfl | rfl) ?_))
         | ((refine z_sti 1 rfl rfl ?_; refine o_storeb1 rfl tabOk rfl rfl rfl (by first | rfl | rfl) (by first | rfl | rfl) (by first | rfl | rfl) ?_))
         | ((refine z_sti 2 rfl rfl ?_; refine o_storeb2 rfl tabOk rfl rfl rfl (by first | rfl | rfl) (by first | rfl | rfl) (by first | rfl | rfl) ?_))
         | ((refine z_sti 3 rfl rfl ?_; refine o_storeb3 rfl tabOk rfl rfl rfl (by first | rfl | rfl) (by first | rfl | rfl) (by first | rfl | rfl) ?_))
         | ((refine z_sti 4 rfl rfl ?_; refine o_storeb4 rfl tabOk rfl rfl rfl (by first | rfl | rfl) (by first | rfl | rfl) (by first | rfl | rfl) ?_))
         | ((refine z_sti 5 rfl rfl ?_; refine o_storeb5 rfl tabOk rfl rfl rfl (by first | rfl | rfl) (by first | rfl | rfl) (by first | rfl | rfl) ?_))
         | ((refine z_sti 6 rfl rfl ?_; refine o_storeb6 rfl tabOk rfl rfl rfl (by first | rfl | rfl) (by first | rfl | rfl) (by first | rfl | rfl) ?_)))
         | (refine z_st1 rfl rfl ?_; first
         | refine o_store rfl tabOk rfl rfl rfl rfl rfl (by first | exact il_at _ (by omega) | rfl | rfl) (by first | rfl) ?_
         | ((refine z_sti 1 rfl rfl ?_; refine o_store1 rfl tabOk rfl rfl rfl rfl rfl (by first | exact il_at _ (by omega) | rfl | rfl) (by first | rfl) ?_))
         | ((refine z_sti 2 rfl rfl ?_; refine o_store2 rfl tabOk rfl rfl rfl rfl rfl (by first | exact il_at _ (by omega) | rfl | rfl) (by first | rfl) ?_))
         | ((refine z_sti 3 rfl rfl ?_; refine o_store3 rfl tabOk rfl rfl rfl rfl rfl (by first | exact il_at _ (by omega) | rfl | rfl) (by first | rfl) ?_))
         | ((refine z_sti 4 rfl rfl ?_; refine o_store4 rfl tabOk rfl rfl rfl rfl rfl (by first | exact il_at _ (by omega) | rfl | rfl) (by first | rfl) ?_))
         | ((refine z_sti 5 rfl rfl ?_; refine o_store5 rfl tabOk rfl rfl rfl rfl rfl (by first | exact il_at _ (by omega) | rfl | rfl) (by first | rfl) ?_))
         | ((refine z_sti 6 rfl rfl ?_; refine o_store6 rfl tabOk rfl rfl rfl rfl rfl (by first | exact il_at _ (by omega) | rfl | rfl) (by first | rfl) ?_))))
         | (refine z_iscall ?_; first
         | ((refine z_iscallf 11 ?_; refine z_isdst 45 ?_; refine o_callr rfl Try.func11 rfl rfl rfl (nsame_c L hL _ _ _ _ _ (by first | exact own_rds 0 rfl | exact own_rds 1 rfl | exact own_rds 2 rfl | exact own_rds 3 rfl | exact own_rds 4 rfl | exact own_rds 5 rfl | exact own_rds 6 rfl | exact own_rds 7 rfl | exact own_rds 8 rfl | exact own_rds 9 rfl | assumption) (by first | exact own_rds 0 rfl | exact own_rds 1 rfl | exact own_rds 2 rfl | exact own_rds 3 rfl | exact own_rds 4 rfl | exact own_rds 5 rfl | exact own_rds 6 rfl | exact own_rds 7 rfl | exact own_rds 8 rfl | exact own_rds 9 rfl | assumption) (by omega)) (by decide) ?_))
         | ((refine z_iscallf 11 ?_; refine z_isdst 116 ?_; refine o_callr rfl Try.func11 rfl rfl rfl (nsame_c Ld hLd _ _ _ _ _ (by first | exact own_rds 0 rfl | exact own_rds 1 rfl | exact own_rds 2 rfl | exact own_rds 3 rfl | exact own_rds 4 rfl | exact own_rds 5 rfl | exact own_rds 6 rfl | exact own_rds 7 rfl | exact own_rds 8 rfl | exact own_rds 9 rfl | assumption) (by first | exact own_rds 0 rfl | exact own_rds 1 rfl | exact own_rds 2 rfl | exact own_rds 3 rfl | exact own_rds 4 rfl | exact own_rds 5 rfl | exact own_rds 6 rfl | exact own_rds 7 rfl | exact own_rds 8 rfl | exact own_rds 9 rfl | assumption) (by omega)) (by decide) ?_))
         | ((refine z_iscallf 18 ?_; refine o_fn rfl Try.func18 rfl rfl rfl (nawake_p) (by decide) ?_))
         | ((refine z_iscallf 10 ?_; refine o_calla Try.func10 rfl rfl rfl (made_cL D L hM A0 c0 _ (Rds.cons _ hrd0) hx) (by decide) fun x _ => ?_))
         | ((refine z_iscallf 11 ?_; refine z_isdst 26 ?_; refine o_callr rfl Try.func11 rfl rfl rfl (nsame_c L hL _ _ _ _ _ (by first | exact own_rds 0 rfl | exact own_rds 1 rfl | exact own_rds 2 rfl | exact own_rds 3 rfl | exact own_rds 4 rfl | exact own_rds 5 rfl | exact own_rds 6 rfl | exact own_rds 7 rfl | exact own_rds 8 rfl | exact own_rds 9 rfl | assumption) (by first | exact own_rds 0 rfl | exact own_rds 1 rfl | exact own_rds 2 rfl | exact own_rds 3 rfl | exact own_rds 4 rfl | exact own_rds 5 rfl | exact own_rds 6 rfl | exact own_rds 7 rfl | exact own_rds 8 rfl | exact own_rds 9 rfl | assumption) (by omega)) (by decide) ?_))
         | ((refine z_iscallf 11 ?_; refine z_isdst 125 ?_; refine o_callr rfl Try.func11 rfl rfl rfl (nsame_c L hL _ _ _ _ _ (by first | exact own_rds 0 rfl | exact own_rds 1 rfl | exact own_rds 2 rfl | exact own_rds 3 rfl | exact own_rds 4 rfl | exact own_rds 5 rfl | exact own_rds 6 rfl | exact own_rds 7 rfl | exact own_rds 8 rfl | exact own_rds 9 rfl | assumption) (by first | exact own_rds 0 rfl | exact own_rds 1 rfl | exact own_rds 2 rfl | exact own_rds 3 rfl | exact own_rds 4 rfl | exact own_rds 5 rfl | exact own_rds 6 rfl | exact own_rds 7 rfl | exact own_rds 8 rfl | exact own_rds 9 rfl | assumption) (by omega)) (by decide) ?_))
         | ((refine z_iscallf 12 ?_; first | refine o_calla Try.func12 rfl rfl rfl (add_yes L La q _ _ _ _ (by first | exact own_rds 0 rfl | exact own_rds 1 rfl | exact own_rds 2 rfl | exact own_rds 3 rfl | exact own_rds 4 rfl | exact own_rds 5 rfl | exact own_rds 6 rfl | exact own_rds 7 rfl | exact own_rds 8 rfl | exact own_rds 9 rfl | assumption) (by omega) ha) (by decide) fun u _ => ?_ | refine o_callr rfl Try.func12 rfl rfl rfl (add_no L _ _ _ _ (by first | exact own_rds 0 rfl | exact own_rds 1 rfl | exact own_rds 2 rfl | exact own_rds 3 rfl | exact own_rds 4 rfl | exact own_rds 5 rfl | exact own_rds 6 rfl | exact own_rds 7 rfl | exact own_rds 8 rfl | exact own_rds 9 rfl | assumption) (by omega) ha) (by decide) ?_))
         | ((refine z_iscallf 13 ?_; first | refine o_calla Try.func13 rfl rfl rfl (radd_yes L La q hL _ _ _ _ (by first | exact own_rds 0 rfl | exact own_rds 1 rfl | exact own_rds 2 rfl | exact own_rds 3 rfl | exact own_rds 4 rfl | exact own_rds 5 rfl | exact own_rds 6 rfl | exact own_rds 7 rfl | exact own_rds 8 rfl | exact own_rds 9 rfl | assumption) (by omega) ha) (by decide) fun u2 _ => ?_ | refine o_callr rfl Try.func13 rfl rfl rfl (radd_no L hL _ _ _ _ (by first | exact own_rds 0 rfl | exact own_rds 1 rfl | exact own_rds 2 rfl | exact own_rds 3 rfl | exact own_rds 4 rfl | exact own_rds 5 rfl | exact own_rds 6 rfl | exact own_rds 7 rfl | exact own_rds 8 rfl | exact own_rds 9 rfl | assumption) (by omega) ha) (by decide) ?_))
         | ((refine z_iscallf 14 ?_; first | refine o_calla Try.func14 rfl rfl rfl (drop_yes L Ld hL _ _ _ _ (by first | exact own_rds 0 rfl | exact own_rds 1 rfl | exact own_rds 2 rfl | exact own_rds 3 rfl | exact own_rds 4 rfl | exact own_rds 5 rfl | exact own_rds 6 rfl | exact own_rds 7 rfl | exact own_rds 8 rfl | exact own_rds 9 rfl | assumption) (by omega) hd) (by decide) fun v _ => ?_ | refine o_callr rfl Try.func14 rfl rfl rfl (drop_no L hL _ _ _ _ (by first | exact own_rds 0 rfl | exact own_rds 1 rfl | exact own_rds 2 rfl | exact own_rds 3 rfl | exact own_rds 4 rfl | exact own_rds 5 rfl | exact own_rds 6 rfl | exact own_rds 7 rfl | exact own_rds 8 rfl | exact own_rds 9 rfl | assumption) (by omega) hd) (by decide) ?_))
         | ((refine z_iscallf 15 ?_; first | refine o_calla Try.func15 rfl rfl rfl (rdrop_yes L Ld _ _ _ _ (by first | exact own_rds 0 rfl | exact own_rds 1 rfl | exact own_rds 2 rfl | exact own_rds 3 rfl | exact own_rds 4 rfl | exact own_rds 5 rfl | exact own_rds 6 rfl | exact own_rds 7 rfl | exact own_rds 8 rfl | exact own_rds 9 rfl | assumption) (by omega) hd) (by decide) fun v2 _ => ?_ | refine o_callr rfl Try.func15 rfl rfl rfl (rdrop_no L _ _ _ _ (by first | exact own_rds 0 rfl | exact own_rds 1 rfl | exact own_rds 2 rfl | exact own_rds 3 rfl | exact own_rds 4 rfl | exact own_rds 5 rfl | exact own_rds 6 rfl | exact own_rds 7 rfl | exact own_rds 8 rfl | exact own_rds 9 rfl | assumption) (by omega) hd) (by decide) ?_))
         | ((refine z_iscallf 16 ?_; refine o_callr rfl Try.func16 rfl rfl rfl (find_cv L _ _ _ _ (by first | exact own_rds 0 rfl | exact own_rds 1 rfl | exact own_rds 2 rfl | exact own_rds 3 rfl | exact own_rds 4 rfl | exact own_rds 5 rfl | exact own_rds 6 rfl | exact own_rds 7 rfl | exact own_rds 8 rfl | exact own_rds 9 rfl | assumption) (by omega)) (by decide) ?_))
         | ((refine z_iscallf 17 ?_; refine o_callr rfl Try.func17 rfl rfl rfl (rfind_c L _ _ _ _ (by first | exact own_rds 0 rfl | exact own_rds 1 rfl | exact own_rds 2 rfl | exact own_rds 3 rfl | exact own_rds 4 rfl | exact own_rds 5 rfl | exact own_rds 6 rfl | exact own_rds 7 rfl | exact own_rds 8 rfl | exact own_rds 9 rfl | assumption) (by omega)) (by decide) ?_)))
         | (refine z_ispick ?_; first
         | (refine o_pick1 rfl (by first | with_reducible rfl | with_reducible assumption | ((with_reducible refine decide_eq_true ?_); first | with_reducible rfl | with_reducible assumption | omega)) rfl (by decide) ?_)
         | (refine o_pick0 rfl (by first | with_reducible rfl | with_reducible assumption | ((with_reducible refine decide_eq_false ?_); first | with_reducible assumption | omega)) rfl (by decide) ?_)
         | (refine o_pick1 rfl (by first | (simp only [Bool.not_eq_true', decide_eq_false_iff_not]; omega) | (with_reducible assumption) | (rw [decide_eq_false] <;> (first | omega | with_reducible rfl)) | (rw [decide_eq_true] <;> (first | omega | with_reducible rfl)) | (simp; done) | (simp; omega)) rfl (by decide) ?_)
         | (refine o_pick0 rfl (by first | (simp only [Bool.not_eq_false', decide_eq_true_eq]; omega) | (with_reducible assumption) | (rw [decide_eq_false] <;> (first | omega | with_reducible rfl)) | (rw [decide_eq_true] <;> (first | omega | with_reducible rfl)) | (simp; done) | (simp; omega)) rfl (by decide) ?_))
         | refine o_move rfl (by decide) ?_
         | refine o_assign rfl (by decide) ?_
         | refine o_nil rfl (by decide) ?_
         | refine o_extract rfl rfl (by decide) ?_
         | refine o_not rfl (by decide) ?_
         | refine o_field0 tabOk rfl rfl rfl rfl rfl (by decide) ?_
         | refine o_field tabOk rfl rfl rfl rfl rfl (by decide) ?_
         | refine o_conv tabOk rfl rfl rfl (by decide) ?_))
    | none =>
      rcases hff with ⟨hf1, hf2⟩ | ⟨hf1, hf2, hf3⟩
      · skip
        repeat' (first
         | (refine s_is ?_; first
         | (refine s_isret ?_; first
         | exact f_r1 rfl (res_t rfl) () trivial rfl (fun w h => ((h.sel 7 [6, 0, 1, 2, 3, 4, 5] (by decide)).mask [true, false, false, false, false, false, false])))
         | (refine s_isw ?_; first
         | refine c_seq ?_
         | refine c_block ?_
         | refine c_region ?_
         | refine c_mixed mixed (by kernel_rfl) ?_
         | refine c_skip ?_
         | refine c_ret ?_
         | refine c_exit ?_
         | (refine s_iscond ?_; first
         | (refine c_true rfl (by first | with_reducible rfl | with_reducible assumption | ((with_reducible refine decide_eq_true ?_); first | with_reducible rfl | with_reducible assumption | omega)) ?_)
         | (refine c_false rfl (by first | with_reducible rfl | with_reducible assumption | ((with_reducible refine decide_eq_false ?_); first | with_reducible assumption | omega)) ?_)
         | (refine c_true rfl (by first | (simp only [Bool.not_eq_true', decide_eq_false_iff_not]; omega) | (with_reducible assumption) | (rw [decide_eq_false] <;> (first | omega | with_reducible rfl)) | (rw [decide_eq_true] <;> (first | omega | with_reducible rfl)) | (simp; done) | (simp; omega)) ?_)
         | (refine c_false rfl (by first | (simp only [Bool.not_eq_false', decide_eq_true_eq]; omega) | (with_reducible assumption) | (rw [decide_eq_false] <;> (first | omega | with_reducible rfl)) | (rw [decide_eq_true] <;> (first | omega | with_reducible rfl)) | (simp; done) | (simp; omega)) ?_)
         | refine c_cond rfl (fun hc => ?_) (fun hc => ?_)
         | refine c_condb rfl (fun hc => ?_) (fun hc => ?_)))
         | refine x_then ?_
         | refine x_then_ret ?_
         | refine x_then_exit ?_
         | refine x_block _ ?_
         | refine x_block_ret _ ?_
         | refine x_block_exit _ ?_
         | refine x_block_past (by decide) ?_
         | refine z_tailm ?_)
         | (refine z_isg1 ?_; first
         | refine z_skipu (by decide) rfl rfl ?_
         | (refine z_want1 rfl rfl (by first | with_reducible rfl | with_reducible assumption | ((with_reducible refine decide_eq_true ?_); first | with_reducible rfl | with_reducible assumption | omega)) ?_)
         | (refine z_skip1 (by decide) rfl rfl (by first | with_reducible rfl | with_reducible assumption | ((with_reducible refine decide_eq_false ?_); first | with_reducible assumption | omega)) ?_)
         | (refine z_want1 rfl rfl (by first | (simp only [Bool.not_eq_true', decide_eq_false_iff_not]; omega) | (with_reducible assumption) | (rw [decide_eq_false] <;> (first | omega | with_reducible rfl)) | (rw [decide_eq_true] <;> (first | omega | with_reducible rfl)) | (simp; done) | (simp; omega)) ?_)
         | (refine z_skip1 (by decide) rfl rfl (by first | (simp only [Bool.not_eq_false', decide_eq_true_eq]; omega) | (with_reducible assumption) | (rw [decide_eq_false] <;> (first | omega | with_reducible rfl)) | (rw [decide_eq_true] <;> (first | omega | with_reducible rfl)) | (simp; done) | (simp; omega)) ?_)
         | refine z_guard1 (by decide) rfl rfl (fun hc => ?_) (fun hc => ?_)
         | refine z_guardb (by decide) rfl rfl (fun hc => ?_) (fun hc => ?_))
         | (refine z_isg0 ?_; first
         | refine z_skipu (by decide) rfl rfl ?_
         | (refine z_want0 rfl rfl (by first | with_reducible rfl | with_reducible assumption | ((with_reducible refine decide_eq_false ?_); first | with_reducible assumption | omega)) ?_)
         | (refine z_skip0 (by decide) rfl rfl (by first | with_reducible rfl | with_reducible assumption | ((with_reducible refine decide_eq_true ?_); first | with_reducible rfl | with_reducible assumption | omega)) ?_)
         | (refine z_want0 rfl rfl (by first | (simp only [Bool.not_eq_false', decide_eq_true_eq]; omega) | (with_reducible assumption) | (rw [decide_eq_false] <;> (first | omega | with_reducible rfl)) | (rw [decide_eq_true] <;> (first | omega | with_reducible rfl)) | (simp; done) | (simp; omega)) ?_)
         | (refine z_skip0 (by decide) rfl rfl (by first | (simp only [Bool.not_eq_true', decide_eq_false_iff_not]; omega) | (with_reducible assumption) | (rw [decide_eq_false] <;> (first | omega | with_reducible rfl)) | (rw [decide_eq_true] <;> (first | omega | with_reducible rfl)) | (simp; done) | (simp; omega)) ?_)
         | refine z_guard0 (by decide) rfl rfl (fun hc => ?_) (fun hc => ?_)
         | refine z_guardb (by decide) rfl rfl (fun hc => ?_) (fun hc => ?_))
         | (refine z_isnil ?_; first
         | refine z_list ?_
         | refine z_mixed ?_
         | refine z_mono0 ?_
         | refine z_mono1 (by decide) fun g => ?_
         | refine z_mono2 (by decide) (by decide) fun g g' => ?_
         | refine z_mixedx ?_
         | refine z_quiet ?_)
         | (refine z_isop ?_; first
         | refine o_alloca (e := 27) (vs := [.slice none 0 0]) rfl (by kernel_rfl) (by decide) fun g => ?_
         | refine o_boxa (vs := [.int .i64 k, .int .i64 n]) rfl rfl (by decide) fun g3 => ?_
         | (refine z_isbin ?_; first
         | (refine z_isb .eql ?_; first
         | refine o_eq rfl rfl (by decide) ?_
         | refine o_beq tabOk rfl rfl rfl (by decide) ?_
         | refine o_peq tabOk rfl rfl (by decide) ?_)
         | (refine z_isb .neq ?_; first
         | refine o_ne rfl rfl (by decide) ?_
         | refine o_bne tabOk rfl rfl rfl (by decide) ?_
         | refine o_pne tabOk rfl rfl (by decide) ?_)
         | (refine z_isb .geq ?_; first
         | refine o_ge rfl rfl (by decide) ?_))
         | (refine z_isload ?_; first
         | (refine z_ld1 tabOk rfl rfl ?_; first
         | refine o_loadm tabOk rfl rfl rfl (by repeat' (first | exact List.mem_cons_self | apply List.mem_cons_of_mem)) (by first | exact il_at _ (by omega) | rfl | rfl) (by decide) ?_
         | refine o_loads tabOk (by first | exact own_rds 0 rfl | exact own_rds 1 rfl | exact own_rds 2 rfl | exact own_rds 3 rfl | exact own_rds 4 rfl | exact own_rds 5 rfl | exact own_rds 6 rfl | exact own_rds 7 rfl | exact own_rds 8 rfl | exact own_rds 9 rfl | assumption) rfl rfl rfl (by first | exact il_at _ (by omega) | rfl | rfl) (by decide) ?_)
         | (refine z_ldw tabOk rfl rfl ?_; first
         | refine o_loadwm tabOk rfl rfl rfl (by repeat' (first | exact List.mem_cons_self | apply List.mem_cons_of_mem)) (by first | rfl | rfl) (by decide) ?_))
         | (refine z_isstore ?_; first
         | (refine z_stw rfl ?_; first
         | ((refine z_sti 0 rfl rfl ?_; refine o_storeb0 rfl tabOk rfl rfl rfl (by first | rfl | rfl) (by first | rfl | rfl) (by first | rfl | rfl) ?_))
         | ((refine z_sti 1 rfl rfl ?_; refine o_storeb1 rfl tabOk rfl rfl rfl (by first | rfl | rfl) (by first | rfl | rfl) (by first | rfl | rfl) ?_))
         | ((refine z_sti 2 rfl rfl ?_; refine o_storeb2 rfl tabOk rfl rfl rfl (by first | rfl | rfl) (by first | rfl | rfl) (by first | rfl | rfl) ?_))
         | ((refine z_sti 3 rfl rfl ?_; refine o_storeb3 rfl tabOk rfl rfl rfl (by first | rfl | rfl) (by first | rfl | rfl) (by first | rfl | rfl) ?_))
         | ((refine z_sti 4 rfl rfl ?_; refine o_storeb4 rfl tabOk rfl rfl rfl (by first | rfl | rfl) (by first | rfl | rfl) (by first | rfl | rfl) ?_))
         | ((refine z_sti 5 rfl rfl ?_; refine o_storeb5 rfl tabOk rfl rfl rfl (by first | rfl | rfl) (by first | rfl | rfl) (by first | rfl | rfl) ?_))
         | ((refine z_sti 6 rfl rfl ?_; refine o_storeb6 rfl tabOk rfl rfl rfl (by first | rfl | rfl) (by first | rfl | rfl) (by first | rfl | rfl) ?_)))
         | (refine z_st1 rfl rfl ?_; first
         | refine o_store rfl tabOk rfl rfl rfl rfl rfl (by first | exact il_at _ (by omega) | rfl | rfl) (by first | rfl) ?_
         | ((refine z_sti 1 rfl rfl ?_; refine o_store1 rfl tabOk rfl rfl rfl rfl rfl (by first | exact il_at _ (by omega) | rfl | rfl) (by first | rfl) ?_))
         | ((refine z_sti 2 rfl rfl ?_; refine o_store2 rfl tabOk rfl rfl rfl rfl rfl (by first | exact il_at _ (by omega) | rfl | rfl) (by first | rfl) ?_))
         | ((refine z_sti 3 rfl rfl ?_; refine o_store3 rfl tabOk rfl rfl rfl rfl rfl (by first | exact il_at _ (by omega) | rfl | rfl) (by first | rfl) ?_))
         | ((refine z_sti 4 rfl rfl ?_; refine o_store4 rfl tabOk rfl rfl rfl rfl rfl (by first | exact il_at _ (by omega) | rfl | rfl) (by first | rfl) ?_))
         | ((refine z_sti 5 rfl rfl ?_; refine o_store5 rfl tabOk rfl rfl rfl rfl rfl (by first | exact il_at _ (by omega) | rfl | rfl) (by first | rfl) ?_))
         | ((refine z_sti 6 rfl rfl ?_; refine o_store6 rfl tabOk rfl rfl rfl rfl rfl (by first | exact il_at _ (by omega) | rfl | rfl) (by first | rfl) ?_))))
         | (refine z_iscall ?_; first
         | ((refine z_iscallf 11 ?_; refine z_isdst 45 ?_; refine o_callr rfl Try.func11 rfl rfl rfl (nsame_c L hL _ _ _ _ _ (by first | exact own_rds 0 rfl | exact own_rds 1 rfl | exact own_rds 2 rfl | exact own_rds 3 rfl | exact own_rds 4 rfl | exact own_rds 5 rfl | exact own_rds 6 rfl | exact own_rds 7 rfl | exact own_rds 8 rfl | exact own_rds 9 rfl | assumption) (by first | exact own_rds 0 rfl | exact own_rds 1 rfl | exact own_rds 2 rfl | exact own_rds 3 rfl | exact own_rds 4 rfl | exact own_rds 5 rfl | exact own_rds 6 rfl | exact own_rds 7 rfl | exact own_rds 8 rfl | exact own_rds 9 rfl | assumption) (by omega)) (by decide) ?_))
         | ((refine z_iscallf 11 ?_; refine z_isdst 116 ?_; refine o_callr rfl Try.func11 rfl rfl rfl (nsame_c L hL _ _ _ _ _ (by first | exact own_rds 0 rfl | exact own_rds 1 rfl | exact own_rds 2 rfl | exact own_rds 3 rfl | exact own_rds 4 rfl | exact own_rds 5 rfl | exact own_rds 6 rfl | exact own_rds 7 rfl | exact own_rds 8 rfl | exact own_rds 9 rfl | assumption) (by first | exact own_rds 0 rfl | exact own_rds 1 rfl | exact own_rds 2 rfl | exact own_rds 3 rfl | exact own_rds 4 rfl | exact own_rds 5 rfl | exact own_rds 6 rfl | exact own_rds 7 rfl | exact own_rds 8 rfl | exact own_rds 9 rfl | assumption) (by omega)) (by decide) ?_))
         | ((refine z_iscallf 18 ?_; refine o_fn rfl Try.func18 rfl rfl rfl (nawake_p) (by decide) ?_))
         | ((refine z_iscallf 10 ?_; refine o_calla Try.func10 rfl rfl rfl (made_cL D L hM A0 c0 _ (Rds.cons _ hrd0) hx) (by decide) fun x _ => ?_))
         | ((refine z_iscallf 11 ?_; refine z_isdst 26 ?_; refine o_callr rfl Try.func11 rfl rfl rfl (nsame_c L hL _ _ _ _ _ (by first | exact own_rds 0 rfl | exact own_rds 1 rfl | exact own_rds 2 rfl | exact own_rds 3 rfl | exact own_rds 4 rfl | exact own_rds 5 rfl | exact own_rds 6 rfl | exact own_rds 7 rfl | exact own_rds 8 rfl | exact own_rds 9 rfl | assumption) (by first | exact own_rds 0 rfl | exact own_rds 1 rfl | exact own_rds 2 rfl | exact own_rds 3 rfl | exact own_rds 4 rfl | exact own_rds 5 rfl | exact own_rds 6 rfl | exact own_rds 7 rfl | exact own_rds 8 rfl | exact own_rds 9 rfl | assumption) (by omega)) (by decide) ?_))
         | ((refine z_iscallf 11 ?_; refine z_isdst 125 ?_; refine o_callr rfl Try.func11 rfl rfl rfl (nsame_c L hL _ _ _ _ _ (by first | exact own_rds 0 rfl | exact own_rds 1 rfl | exact own_rds 2 rfl | exact own_rds 3 rfl | exact own_rds 4 rfl | exact own_rds 5 rfl | exact own_rds 6 rfl | exact own_rds 7 rfl | exact own_rds 8 rfl | exact own_rds 9 rfl | assumption) (by first | exact own_rds 0 rfl | exact own_rds 1 rfl | exact own_rds 2 rfl | exact own_rds 3 rfl | exact own_rds 4 rfl | exact own_rds 5 rfl | exact own_rds 6 rfl | exact own_rds 7 rfl | exact own_rds 8 rfl | exact own_rds 9 rfl | assumption) (by omega)) (by decide) ?_))
         | ((refine z_iscallf 12 ?_; first | refine o_calla Try.func12 rfl rfl rfl (add_yes L La q _ _ _ _ (by first | exact own_rds 0 rfl | exact own_rds 1 rfl | exact own_rds 2 rfl | exact own_rds 3 rfl | exact own_rds 4 rfl | exact own_rds 5 rfl | exact own_rds 6 rfl | exact own_rds 7 rfl | exact own_rds 8 rfl | exact own_rds 9 rfl | assumption) (by omega) ha) (by decide) fun u _ => ?_ | refine o_callr rfl Try.func12 rfl rfl rfl (add_no L _ _ _ _ (by first | exact own_rds 0 rfl | exact own_rds 1 rfl | exact own_rds 2 rfl | exact own_rds 3 rfl | exact own_rds 4 rfl | exact own_rds 5 rfl | exact own_rds 6 rfl | exact own_rds 7 rfl | exact own_rds 8 rfl | exact own_rds 9 rfl | assumption) (by omega) ha) (by decide) ?_))
         | ((refine z_iscallf 13 ?_; first | refine o_calla Try.func13 rfl rfl rfl (radd_yes L La q hL _ _ _ _ (by first | exact own_rds 0 rfl | exact own_rds 1 rfl | exact own_rds 2 rfl | exact own_rds 3 rfl | exact own_rds 4 rfl | exact own_rds 5 rfl | exact own_rds 6 rfl | exact own_rds 7 rfl | exact own_rds 8 rfl | exact own_rds 9 rfl | assumption) (by omega) ha) (by decide) fun u2 _ => ?_ | refine o_callr rfl Try.func13 rfl rfl rfl (radd_no L hL _ _ _ _ (by first | exact own_rds 0 rfl | exact own_rds 1 rfl | exact own_rds 2 rfl | exact own_rds 3 rfl | exact own_rds 4 rfl | exact own_rds 5 rfl | exact own_rds 6 rfl | exact own_rds 7 rfl | exact own_rds 8 rfl | exact own_rds 9 rfl | assumption) (by omega) ha) (by decide) ?_))
         | ((refine z_iscallf 14 ?_; first | refine o_calla Try.func14 rfl rfl rfl (drop_yes L Ld hL _ _ _ _ (by first | exact own_rds 0 rfl | exact own_rds 1 rfl | exact own_rds 2 rfl | exact own_rds 3 rfl | exact own_rds 4 rfl | exact own_rds 5 rfl | exact own_rds 6 rfl | exact own_rds 7 rfl | exact own_rds 8 rfl | exact own_rds 9 rfl | assumption) (by omega) hd) (by decide) fun v _ => ?_ | refine o_callr rfl Try.func14 rfl rfl rfl (drop_no L hL _ _ _ _ (by first | exact own_rds 0 rfl | exact own_rds 1 rfl | exact own_rds 2 rfl | exact own_rds 3 rfl | exact own_rds 4 rfl | exact own_rds 5 rfl | exact own_rds 6 rfl | exact own_rds 7 rfl | exact own_rds 8 rfl | exact own_rds 9 rfl | assumption) (by omega) hd) (by decide) ?_))
         | ((refine z_iscallf 15 ?_; first | refine o_calla Try.func15 rfl rfl rfl (rdrop_yes L Ld _ _ _ _ (by first | exact own_rds 0 rfl | exact own_rds 1 rfl | exact own_rds 2 rfl | exact own_rds 3 rfl | exact own_rds 4 rfl | exact own_rds 5 rfl | exact own_rds 6 rfl | exact own_rds 7 rfl | exact own_rds 8 rfl | exact own_rds 9 rfl | assumption) (by omega) hd) (by decide) fun v2 _ => ?_ | refine o_callr rfl Try.func15 rfl rfl rfl (rdrop_no L _ _ _ _ (by first | exact own_rds 0 rfl | exact own_rds 1 rfl | exact own_rds 2 rfl | exact own_rds 3 rfl | exact own_rds 4 rfl | exact own_rds 5 rfl | exact own_rds 6 rfl | exact own_rds 7 rfl | exact own_rds 8 rfl | exact own_rds 9 rfl | assumption) (by omega) hd) (by decide) ?_))
         | ((refine z_iscallf 16 ?_; refine o_callr rfl Try.func16 rfl rfl rfl (find_cv L _ _ _ _ (by first | exact own_rds 0 rfl | exact own_rds 1 rfl | exact own_rds 2 rfl | exact own_rds 3 rfl | exact own_rds 4 rfl | exact own_rds 5 rfl | exact own_rds 6 rfl | exact own_rds 7 rfl | exact own_rds 8 rfl | exact own_rds 9 rfl | assumption) (by omega)) (by decide) ?_))
         | ((refine z_iscallf 17 ?_; refine o_callr rfl Try.func17 rfl rfl rfl (rfind_c L _ _ _ _ (by first | exact own_rds 0 rfl | exact own_rds 1 rfl | exact own_rds 2 rfl | exact own_rds 3 rfl | exact own_rds 4 rfl | exact own_rds 5 rfl | exact own_rds 6 rfl | exact own_rds 7 rfl | exact own_rds 8 rfl | exact own_rds 9 rfl | assumption) (by omega)) (by decide) ?_)))
         | (refine z_ispick ?_; first
         | (refine o_pick1 rfl (by first | with_reducible rfl | with_reducible assumption | ((with_reducible refine decide_eq_true ?_); first | with_reducible rfl | with_reducible assumption | omega)) rfl (by decide) ?_)
         | (refine o_pick0 rfl (by first | with_reducible rfl | with_reducible assumption | ((with_reducible refine decide_eq_false ?_); first | with_reducible assumption | omega)) rfl (by decide) ?_)
         | (refine o_pick1 rfl (by first | (simp only [Bool.not_eq_true', decide_eq_false_iff_not]; omega) | (with_reducible assumption) | (rw [decide_eq_false] <;> (first | omega | with_reducible rfl)) | (rw [decide_eq_true] <;> (first | omega | with_reducible rfl)) | (simp; done) | (simp; omega)) rfl (by decide) ?_)
         | (refine o_pick0 rfl (by first | (simp only [Bool.not_eq_false', decide_eq_true_eq]; omega) | (with_reducible assumption) | (rw [decide_eq_false] <;> (first | omega | with_reducible rfl)) | (rw [decide_eq_true] <;> (first | omega | with_reducible rfl)) | (simp; done) | (simp; omega)) rfl (by decide) ?_))
         | refine o_move rfl (by decide) ?_
         | refine o_assign rfl (by decide) ?_
         | refine o_nil rfl (by decide) ?_
         | refine o_extract rfl rfl (by decide) ?_
         | refine o_not rfl (by decide) ?_
         | refine o_field0 tabOk rfl rfl rfl rfl rfl (by decide) ?_
         | refine o_field tabOk rfl rfl rfl rfl rfl (by decide) ?_
         | refine o_conv tabOk rfl rfl rfl (by decide) ?_))
      · skip
        repeat' (first
         | (refine s_is ?_; first
         | (refine s_isret ?_; first
         | exact f_r1 rfl (res_t rfl) () trivial rfl (fun w h => ((h.sel 7 [6, 0, 1, 2, 3, 4, 5] (by decide)).mask [true, false, false, false, false, false, false])))
         | (refine s_isw ?_; first
         | refine c_seq ?_
         | refine c_block ?_
         | refine c_region ?_
         | refine c_mixed mixed (by kernel_rfl) ?_
         | refine c_skip ?_
         | refine c_ret ?_
         | refine c_exit ?_
         | (refine s_iscond ?_; first
         | (refine c_true rfl (by first | with_reducible rfl | with_reducible assumption | ((with_reducible refine decide_eq_true ?_); first | with_reducible rfl | with_reducible assumption | omega)) ?_)
         | (refine c_false rfl (by first | with_reducible rfl | with_reducible assumption | ((with_reducible refine decide_eq_false ?_); first | with_reducible assumption | omega)) ?_)
         | (refine c_true rfl (by first | (simp only [Bool.not_eq_true', decide_eq_false_iff_not]; omega) | (with_reducible assumption) | (rw [decide_eq_false] <;> (first | omega | with_reducible rfl)) | (rw [decide_eq_true] <;> (first | omega | with_reducible rfl)) | (simp; done) | (simp; omega)) ?_)
         | (refine c_false rfl (by first | (simp only [Bool.not_eq_false', decide_eq_true_eq]; omega) | (with_reducible assumption) | (rw [decide_eq_false] <;> (first | omega | with_reducible rfl)) | (rw [decide_eq_true] <;> (first | omega | with_reducible rfl)) | (simp; done) | (simp; omega)) ?_)
         | refine c_cond rfl (fun hc => ?_) (fun hc => ?_)
         | refine c_condb rfl (fun hc => ?_) (fun hc => ?_)))
         | refine x_then ?_
         | refine x_then_ret ?_
         | refine x_then_exit ?_
         | refine x_block _ ?_
         | refine x_block_ret _ ?_
         | refine x_block_exit _ ?_
         | refine x_block_past (by decide) ?_
         | refine z_tailm ?_)
         | (refine z_isg1 ?_; first
         | refine z_skipu (by decide) rfl rfl ?_
         | (refine z_want1 rfl rfl (by first | with_reducible rfl | with_reducible assumption | ((with_reducible refine decide_eq_true ?_); first | with_reducible rfl | with_reducible assumption | omega)) ?_)
         | (refine z_skip1 (by decide) rfl rfl (by first | with_reducible rfl | with_reducible assumption | ((with_reducible refine decide_eq_false ?_); first | with_reducible assumption | omega)) ?_)
         | (refine z_want1 rfl rfl (by first | (simp only [Bool.not_eq_true', decide_eq_false_iff_not]; omega) | (with_reducible assumption) | (rw [decide_eq_false] <;> (first | omega | with_reducible rfl)) | (rw [decide_eq_true] <;> (first | omega | with_reducible rfl)) | (simp; done) | (simp; omega)) ?_)
         | (refine z_skip1 (by decide) rfl rfl (by first | (simp only [Bool.not_eq_false', decide_eq_true_eq]; omega) | (with_reducible assumption) | (rw [decide_eq_false] <;> (first | omega | with_reducible rfl)) | (rw [decide_eq_true] <;> (first | omega | with_reducible rfl)) | (simp; done) | (simp; omega)) ?_)
         | refine z_guard1 (by decide) rfl rfl (fun hc => ?_) (fun hc => ?_)
         | refine z_guardb (by decide) rfl rfl (fun hc => ?_) (fun hc => ?_))
         | (refine z_isg0 ?_; first
         | refine z_skipu (by decide) rfl rfl ?_
         | (refine z_want0 rfl rfl (by first | with_reducible rfl | with_reducible assumption | ((with_reducible refine decide_eq_false ?_); first | with_reducible assumption | omega)) ?_)
         | (refine z_skip0 (by decide) rfl rfl (by first | with_reducible rfl | with_reducible assumption | ((with_reducible refine decide_eq_true ?_); first | with_reducible rfl | with_reducible assumption | omega)) ?_)
         | (refine z_want0 rfl rfl (by first | (simp only [Bool.not_eq_false', decide_eq_true_eq]; omega) | (with_reducible assumption) | (rw [decide_eq_false] <;> (first | omega | with_reducible rfl)) | (rw [decide_eq_true] <;> (first | omega | with_reducible rfl)) | (simp; done) | (simp; omega)) ?_)
         | (refine z_skip0 (by decide) rfl rfl (by first | (simp only [Bool.not_eq_true', decide_eq_false_iff_not]; omega) | (with_reducible assumption) | (rw [decide_eq_false] <;> (first | omega | with_reducible rfl)) | (rw [decide_eq_true] <;> (first | omega | with_reducible rfl)) | (simp; done) | (simp; omega)) ?_)
         | refine z_guard0 (by decide) rfl rfl (fun hc => ?_) (fun hc => ?_)
         | refine z_guardb (by decide) rfl rfl (fun hc => ?_) (fun hc => ?_))
         | (refine z_isnil ?_; first
         | refine z_list ?_
         | refine z_mixed ?_
         | refine z_mono0 ?_
         | refine z_mono1 (by decide) fun g => ?_
         | refine z_mono2 (by decide) (by decide) fun g g' => ?_
         | refine z_mixedx ?_
         | refine z_quiet ?_)
         | (refine z_isop ?_; first
         | refine o_alloca (e := 27) (vs := [.slice none 0 0]) rfl (by kernel_rfl) (by decide) fun g => ?_
         | refine o_boxa (vs := [.int .i64 k, .int .i64 n]) rfl rfl (by decide) fun g3 => ?_
         | (refine z_isbin ?_; first
         | (refine z_isb .eql ?_; first
         | refine o_eq rfl rfl (by decide) ?_
         | refine o_beq tabOk rfl rfl rfl (by decide) ?_
         | refine o_peq tabOk rfl rfl (by decide) ?_)
         | (refine z_isb .neq ?_; first
         | refine o_ne rfl rfl (by decide) ?_
         | refine o_bne tabOk rfl rfl rfl (by decide) ?_
         | refine o_pne tabOk rfl rfl (by decide) ?_)
         | (refine z_isb .geq ?_; first
         | refine o_ge rfl rfl (by decide) ?_))
         | (refine z_isload ?_; first
         | (refine z_ld1 tabOk rfl rfl ?_; first
         | refine o_loadm tabOk rfl rfl rfl (by repeat' (first | exact List.mem_cons_self | apply List.mem_cons_of_mem)) (by first | exact il_at _ (by omega) | rfl | rfl) (by decide) ?_
         | refine o_loads tabOk (by first | exact own_rds 0 rfl | exact own_rds 1 rfl | exact own_rds 2 rfl | exact own_rds 3 rfl | exact own_rds 4 rfl | exact own_rds 5 rfl | exact own_rds 6 rfl | exact own_rds 7 rfl | exact own_rds 8 rfl | exact own_rds 9 rfl | assumption) rfl rfl rfl (by first | exact il_at _ (by omega) | rfl | rfl) (by decide) ?_)
         | (refine z_ldw tabOk rfl rfl ?_; first
         | refine o_loadwm tabOk rfl rfl rfl (by repeat' (first | exact List.mem_cons_self | apply List.mem_cons_of_mem)) (by first | rfl | rfl) (by decide) ?_))
         | (refine z_isstore ?_; first
         | (refine z_stw rfl ?_; first
         | ((refine z_sti 0 rfl rfl ?_; refine o_storeb0 rfl tabOk rfl rfl rfl (by first | rfl | rfl) (by first | rfl | rfl) (by first | rfl | rfl) ?_))
         | ((refine z_sti 1 rfl rfl ?_; refine o_storeb1 rfl tabOk rfl rfl rfl (by first | rfl | rfl) (by first | rfl | rfl) (by first | rfl | rfl) ?_))
         | ((refine z_sti 2 rfl rfl ?_; refine o_storeb2 rfl tabOk rfl rfl rfl (by first | rfl | rfl) (by first | rfl | rfl) (by first | rfl | rfl) ?_))
         | ((refine z_sti 3 rfl rfl ?_; refine o_storeb3 rfl tabOk rfl rfl rfl (by first | rfl | rfl) (by first | rfl | rfl) (by first | rfl | rfl) ?_))
         | ((refine z_sti 4 rfl rfl ?_; refine o_storeb4 rfl tabOk rfl rfl rfl (by first | rfl | rfl) (by first | rfl | rfl) (by first | rfl | rfl) ?_))
         | ((refine z_sti 5 rfl rfl ?_; refine o_storeb5 rfl tabOk rfl rfl rfl (by first | rfl | rfl) (by first | rfl | rfl) (by first | rfl | rfl) ?_))
         | ((refine z_sti 6 rfl rfl ?_; refine o_storeb6 rfl tabOk rfl rfl rfl (by first | rfl | rfl) (by first | rfl | rfl) (by first | rfl | rfl) ?_)))
         | (refine z_st1 rfl rfl ?_; first
         | refine o_store rfl tabOk rfl rfl rfl rfl rfl (by first | exact il_at _ (by omega) | rfl | rfl) (by first | rfl) ?_
         | ((refine z_sti 1 rfl rfl ?_; refine o_store1 rfl tabOk rfl rfl rfl rfl rfl (by first | exact il_at _ (by omega) | rfl | rfl) (by first | rfl) ?_))
         | ((refine z_sti 2 rfl rfl ?_; refine o_store2 rfl tabOk rfl rfl rfl rfl rfl (by first | exact il_at _ (by omega) | rfl | rfl) (by first | rfl) ?_))
         | ((refine z_sti 3 rfl rfl ?_; refine o_store3 rfl tabOk rfl rfl rfl rfl rfl (by first | exact il_at _ (by omega) | rfl | rfl) (by first | rfl) ?_))
         | ((refine z_sti 4 rfl rfl ?_; refine o_store4 rfl tabOk rfl rfl rfl rfl rfl (by first | exact il_at _ (by omega) | rfl | rfl) (by first | rfl) ?_))
         | ((refine z_sti 5 rfl rfl ?_; refine o_store5 rfl tabOk rfl rfl rfl rfl rfl (by first | exact il_at _ (by omega) | rfl | rfl) (by first | rfl) ?_))
         | ((refine z_sti 6 rfl rfl ?_; refine o_store6 rfl tabOk rfl rfl rfl rfl rfl (by first | exact il_at _ (by omega) | rfl | rfl) (by first | rfl) ?_))))
         | (refine z_iscall ?_; first
         | ((refine z_iscallf 11 ?_; refine z_isdst 45 ?_; refine o_callr rfl Try.func11 rfl rfl rfl (nsame_c L hL _ _ _ _ _ (by first | exact own_rds 0 rfl | exact own_rds 1 rfl | exact own_rds 2 rfl | exact own_rds 3 rfl | exact own_rds 4 rfl | exact own_rds 5 rfl | exact own_rds 6 rfl | exact own_rds 7 rfl | exact own_rds 8 rfl | exact own_rds 9 rfl | assumption) (by first | exact own_rds 0 rfl | exact own_rds 1 rfl | exact own_rds 2 rfl | exact own_rds 3 rfl | exact own_rds 4 rfl | exact own_rds 5 rfl | exact own_rds 6 rfl | exact own_rds 7 rfl | exact own_rds 8 rfl | exact own_rds 9 rfl | assumption) (by omega)) (by decide) ?_))
         | ((refine z_iscallf 11 ?_; refine z_isdst 116 ?_; refine o_callr rfl Try.func11 rfl rfl rfl (nsame_c L hL _ _ _ _ _ (by first | exact own_rds 0 rfl | exact own_rds 1 rfl | exact own_rds 2 rfl | exact own_rds 3 rfl | exact own_rds 4 rfl | exact own_rds 5 rfl | exact own_rds 6 rfl | exact own_rds 7 rfl | exact own_rds 8 rfl | exact own_rds 9 rfl | assumption) (by first | exact own_rds 0 rfl | exact own_rds 1 rfl | exact own_rds 2 rfl | exact own_rds 3 rfl | exact own_rds 4 rfl | exact own_rds 5 rfl | exact own_rds 6 rfl | exact own_rds 7 rfl | exact own_rds 8 rfl | exact own_rds 9 rfl | assumption) (by omega)) (by decide) ?_))
         | ((refine z_iscallf 18 ?_; refine o_fn rfl Try.func18 rfl rfl rfl (nawake_p) (by decide) ?_))
         | ((refine z_iscallf 10 ?_; refine o_calla Try.func10 rfl rfl rfl (made_cL D L hM A0 c0 _ (Rds.cons _ hrd0) hx) (by decide) fun x _ => ?_))
         | ((refine z_iscallf 11 ?_; refine z_isdst 26 ?_; refine o_callr rfl Try.func11 rfl rfl rfl (nsame_c L hL _ _ _ _ _ (by first | exact own_rds 0 rfl | exact own_rds 1 rfl | exact own_rds 2 rfl | exact own_rds 3 rfl | exact own_rds 4 rfl | exact own_rds 5 rfl | exact own_rds 6 rfl | exact own_rds 7 rfl | exact own_rds 8 rfl | exact own_rds 9 rfl | assumption) (by first | exact own_rds 0 rfl | exact own_rds 1 rfl | exact own_rds 2 rfl | exact own_rds 3 rfl | exact own_rds 4 rfl | exact own_rds 5 rfl | exact own_rds 6 rfl | exact own_rds 7 rfl | exact own_rds 8 rfl | exact own_rds 9 rfl | assumption) (by omega)) (by decide) ?_))
         | ((refine z_iscallf 11 ?_; refine z_isdst 125 ?_; refine o_callr rfl Try.func11 rfl rfl rfl (nsame_c L hL _ _ _ _ _ (by first | exact own_rds 0 rfl | exact own_rds 1 rfl | exact own_rds 2 rfl | exact own_rds 3 rfl | exact own_rds 4 rfl | exact own_rds 5 rfl | exact own_rds 6 rfl | exact own_rds 7 rfl | exact own_rds 8 rfl | exact own_rds 9 rfl | assumption) (by first | exact own_rds 0 rfl | exact own_rds 1 rfl | exact own_rds 2 rfl | exact own_rds 3 rfl | exact own_rds 4 rfl | exact own_rds 5 rfl | exact own_rds 6 rfl | exact own_rds 7 rfl | exact own_rds 8 rfl | exact own_rds 9 rfl | assumption) (by omega)) (by decide) ?_))
         | ((refine z_iscallf 12 ?_; first | refine o_calla Try.func12 rfl rfl rfl (add_yes L La q _ _ _ _ (by first | exact own_rds 0 rfl | exact own_rds 1 rfl | exact own_rds 2 rfl | exact own_rds 3 rfl | exact own_rds 4 rfl | exact own_rds 5 rfl | exact own_rds 6 rfl | exact own_rds 7 rfl | exact own_rds 8 rfl | exact own_rds 9 rfl | assumption) (by omega) ha) (by decide) fun u _ => ?_ | refine o_callr rfl Try.func12 rfl rfl rfl (add_no L _ _ _ _ (by first | exact own_rds 0 rfl | exact own_rds 1 rfl | exact own_rds 2 rfl | exact own_rds 3 rfl | exact own_rds 4 rfl | exact own_rds 5 rfl | exact own_rds 6 rfl | exact own_rds 7 rfl | exact own_rds 8 rfl | exact own_rds 9 rfl | assumption) (by omega) ha) (by decide) ?_))
         | ((refine z_iscallf 13 ?_; first | refine o_calla Try.func13 rfl rfl rfl (radd_yes L La q hL _ _ _ _ (by first | exact own_rds 0 rfl | exact own_rds 1 rfl | exact own_rds 2 rfl | exact own_rds 3 rfl | exact own_rds 4 rfl | exact own_rds 5 rfl | exact own_rds 6 rfl | exact own_rds 7 rfl | exact own_rds 8 rfl | exact own_rds 9 rfl | assumption) (by omega) ha) (by decide) fun u2 _ => ?_ | refine o_callr rfl Try.func13 rfl rfl rfl (radd_no L hL _ _ _ _ (by first | exact own_rds 0 rfl | exact own_rds 1 rfl | exact own_rds 2 rfl | exact own_rds 3 rfl | exact own_rds 4 rfl | exact own_rds 5 rfl | exact own_rds 6 rfl | exact own_rds 7 rfl | exact own_rds 8 rfl | exact own_rds 9 rfl | assumption) (by omega) ha) (by decide) ?_))
         | ((refine z_iscallf 14 ?_; first | refine o_calla Try.func14 rfl rfl rfl (drop_yes L Ld hL _ _ _ _ (by first | exact own_rds 0 rfl | exact own_rds 1 rfl | exact own_rds 2 rfl | exact own_rds 3 rfl | exact own_rds 4 rfl | exact own_rds 5 rfl | exact own_rds 6 rfl | exact own_rds 7 rfl | exact own_rds 8 rfl | exact own_rds 9 rfl | assumption) (by omega) hd) (by decide) fun v _ => ?_ | refine o_callr rfl Try.func14 rfl rfl rfl (drop_no L hL _ _ _ _ (by first | exact own_rds 0 rfl | exact own_rds 1 rfl | exact own_rds 2 rfl | exact own_rds 3 rfl | exact own_rds 4 rfl | exact own_rds 5 rfl | exact own_rds 6 rfl | exact own_rds 7 rfl | exact own_rds 8 rfl | exact own_rds 9 rfl | assumption) (by omega) hd) (by decide) ?_))
         | ((refine z_iscallf 15 ?_; first | refine o_calla Try.func15 rfl rfl rfl (rdrop_yes L Ld _ _ _ _ (by first | exact own_rds 0 rfl | exact own_rds 1 rfl | exact own_rds 2 rfl | exact own_rds 3 rfl | exact own_rds 4 rfl | exact own_rds 5 rfl | exact own_rds 6 rfl | exact own_rds 7 rfl | exact own_rds 8 rfl | exact own_rds 9 rfl | assumption) (by omega) hd) (by decide) fun v2 _ => ?_ | refine o_callr rfl Try.func15 rfl rfl rfl (rdrop_no L _ _ _ _ (by first | exact own_rds 0 rfl | exact own_rds 1 rfl | exact own_rds 2 rfl | exact own_rds 3 rfl | exact own_rds 4 rfl | exact own_rds 5 rfl | exact own_rds 6 rfl | exact own_rds 7 rfl | exact own_rds 8 rfl | exact own_rds 9 rfl | assumption) (by omega) hd) (by decide) ?_))
         | ((refine z_iscallf 16 ?_; refine o_callr rfl Try.func16 rfl rfl rfl (find_cv L _ _ _ _ (by first | exact own_rds 0 rfl | exact own_rds 1 rfl | exact own_rds 2 rfl | exact own_rds 3 rfl | exact own_rds 4 rfl | exact own_rds 5 rfl | exact own_rds 6 rfl | exact own_rds 7 rfl | exact own_rds 8 rfl | exact own_rds 9 rfl | assumption) (by omega)) (by decide) ?_))
         | ((refine z_iscallf 17 ?_; refine o_callr rfl Try.func17 rfl rfl rfl (rfind_c L _ _ _ _ (by first | exact own_rds 0 rfl | exact own_rds 1 rfl | exact own_rds 2 rfl | exact own_rds 3 rfl | exact own_rds 4 rfl | exact own_rds 5 rfl | exact own_rds 6 rfl | exact own_rds 7 rfl | exact own_rds 8 rfl | exact own_rds 9 rfl | assumption) (by omega)) (by decide) ?_)))
         | (refine z_ispick ?_; first
         | (refine o_pick1 rfl (by first | with_reducible rfl | with_reducible assumption | ((with_reducible refine decide_eq_true ?_); first | with_reducible rfl | with_reducible assumption | omega)) rfl (by decide) ?_)
         | (refine o_pick0 rfl (by first | with_reducible rfl | with_reducible assumption | ((with_reducible refine decide_eq_false ?_); first | with_reducible assumption | omega)) rfl (by decide) ?_)
         | (refine o_pick1 rfl (by first | (simp only [Bool.not_eq_true', decide_eq_false_iff_not]; omega) | (with_reducible assumption) | (rw [decide_eq_false] <;> (first | omega | with_reducible rfl)) | (rw [decide_eq_true] <;> (first | omega | with_reducible rfl)) | (simp; done) | (simp; omega)) rfl (by decide) ?_)
         | (refine o_pick0 rfl (by first | (simp only [Bool.not_eq_false', decide_eq_true_eq]; omega) | (with_reducible assumption) | (rw [decide_eq_false] <;> (first | omega | with_reducible rfl)) | (rw [decide_eq_true] <;> (first | omega | with_reducible rfl)) | (simp; done) | (simp; omega)) rfl (by decide) ?_))
         | refine o_move rfl (by decide) ?_
         | refine o_assign rfl (by decide) ?_
         | refine o_nil rfl (by decide) ?_
         | refine o_extract rfl rfl (by decide) ?_
         | refine o_not rfl (by decide) ?_
         | refine o_field0 tabOk rfl rfl rfl rfl rfl (by decide) ?_
         | refine o_field tabOk rfl rfl rfl rfl rfl (by decide) ?_
         | refine o_conv tabOk rfl rfl rfl (by decide) ?_))
end Go.Proofs.Ytjjhlkjnjbagfaa
