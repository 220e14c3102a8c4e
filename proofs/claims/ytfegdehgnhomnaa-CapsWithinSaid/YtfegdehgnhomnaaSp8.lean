/-
Span: the document's?
-/
import Derived.Test.YtfegdehgnhomnaaSp7
import Derived.Test.YtfegdehgnhomnaaOpen
namespace Go.Proofs.Ytfegdehgnhomnaa
set_option linter.unusedVariables false
set_option linter.unusedSimpArgs false
open Eng
theorem rws_rr (s : Nat → Bool) : rr s 1024 = rws s := rfl
theorem inS_lay (k : Int) (s t : Nat → Bool) (j : Int) : inS (layS k s t) j = layB k (inS s j) (inS t j) := by
  have h0 : layB k false false = false := by unfold layB; split <;> (try split) <;> rfl
  unfold inS
  cases hc : (decide (0 ≤ j) && decide (j < 1024)) with
  | true => simp only [Bool.true_and]; rfl
  | false => simp only [Bool.false_and]; exact h0.symm
theorem ofR_rws (f t : Int) : ofR f t = rws (ofS f t) := rws_eq (ofR_ok f t).s fun j => by
  rw [ofR_has]
  unfold inS ofS
  by_cases h : 0 ≤ j
  · rw [decide_eq_true h, Int.toNat_of_nonneg h]
    cases decide (f ≤ j) <;> cases decide (j < t) <;> cases decide (j < 1024) <;> rfl
  · rw [decide_eq_false h]; simp
theorem hm_with (s t : Nat → Bool) : ∀ j, hasB (rws (layS 0 s t)) j = (hasB (rws s) j || hasB (rws t) j) := fun j => by rw [rws_has, rws_has, rws_has, inS_lay]; rfl
theorem hm_without (s t : Nat → Bool) : ∀ j, hasB (rws (layS 1 s t)) j = (hasB (rws s) j && !hasB (rws t) j) := fun j => by rw [rws_has, rws_has, rws_has, inS_lay]; rfl
theorem hm_both (k : Int) (h0 : k ≠ 0) (h1 : k ≠ 1) (s t : Nat → Bool) : ∀ j, hasB (rws (layS k s t)) j = (hasB (rws s) j && hasB (rws t) j) := fun j => by
  rw [rws_has, rws_has, rws_has, inS_lay]
  unfold layB; rw [if_neg h0, if_neg h1]
theorem rws_empty : rws (fun _ => false) = [] := by
  refine (rws_eq (R := []) (by unfold Sep; trivial) fun j => ?_).symm
  rw [has_nil]; unfold inS; simp
theorem of_s (f t : Int) (fr : List Chunk) : Does Try.prog 8 [.int .i64 f, .int .i64 t] fr (fun _ : Option Addr × Nat => True) (fun x => .agg #[.slice x.1 (rws (ofS f t)).length x.2]) (fun x => own x.1 x.2 75 2 (rws (ofS f t)).length (rc (rws (ofS f t))) :: fr) := by rw [← ofR_rws]; exact of_c f t fr
theorem all_s (s : Nat → Bool) (A : Option Addr) (c : Nat) (fr : List Chunk) (hrd : Rds fr A (rc (rws s))) : Does Try.prog 35 [.agg #[.slice A (rws s).length c]] fr (fun _ : Option Addr × Nat => True) (fun x => .slice x.1 (al s 1024).length x.2) (fun x => own x.1 x.2 3 1 (al s 1024).length (ilS (al s 1024)) :: fr) := by rw [← nm_al]; exact all_c _ (rws_ok s) A c fr hrd
theorem slen_s (s : Nat → Bool) (A : Option Addr) (c : Nat) (fr : List Chunk) (hrd : Rds fr A (rc (rws s))) : Does Try.prog 16 [.agg #[.slice A (rws s).length c]] fr (fun _ : Unit => True) (fun _ => .int .i64 (al s 1024).length) (fun _ => fr) := by rw [← len_al]; exact slen_c _ (rws_ok s) A c fr hrd
theorem rrows_s (s : Nat → Bool) (fr : List Chunk) : Does Try.prog 49 [.agg (bs s).toArray] fr (fun _ : Option Addr × Nat => True) (fun x => .slice x.1 (rws s).length x.2) (fun x => own x.1 x.2 102 2 (rws s).length (rc (rws s)) :: fr) := rrows_c s fr
def prK : List CK := [.int .i64, .int .i64]
theorem rcs_typed (r : Rw) : Typed prK (rcs r) := ⟨rfl, rfl, trivial⟩
theorem cmp_pair : Cmp Try.prog 102 prK := ⟨by kernel_rfl, .inl ⟨_, _, Try.underlying102⟩, by kernel_rfl⟩
theorem rcs_same (r : Rw) : eqB (rcs r) (rcs r) = true := (eqB_iff (rcs_typed r) (rcs_typed r)).2 rfl
attribute [local irreducible] Eng.Hold Eng.Z Eng.S Eng.cells Eng.old Eng.own rc rcs at' hasB Sep lastTo push
attribute [local irreducible] cmpR lenN ofR en mg cu ilS rg nm bs pt al rr rws layS ofS
set_option maxHeartbeats 4000000 in
theorem ssetsame_c (s : Nat → Bool) (A : Option Addr) (c : Nat) (fr : List Chunk) (hrd : Rds fr A (rc (rws s))) : Does Try.prog 37 [.agg #[.slice A (rws s).length c], .agg (bs s).toArray] fr (fun _ : Unit => True) (fun _ => .bool true) (fun _ => fr) := by
  intro w hw
  have hal := al_le s 1024
  have hx := (rws_ok s).len
  refine f_enter Try.func37 rfl Try.ntmps37 rfl hw ?_
  repeat' (first
   | ((refine z_isdst 9 ?_; refine o_callx1 Try.func35 rfl rfl rfl (all_s s A c _ (Rds.cons _ (Rds.cons _ hrd))) (by decide) (by decide) fun u _ => ?_))
   | ((refine z_isdst 11 ?_; refine o_callx1 Try.func36 rfl rfl rfl (rall_c s _) (by decide) (by decide) fun v _ => ?_))
   | ((refine z_isdst 12 ?_; refine o_callx0 Try.func34 rfl rfl rfl (ssame_c (al s 1024) _ _ _ _ _ (own_rds 1 rfl) (own_rds 0 rfl) (by omega)) (by decide) (by decide) ?_))
   | ((refine z_isdst 16 ?_; refine o_callr rfl Try.func16 rfl rfl rfl (slen_s s A c _ (Rds.cons _ (Rds.cons _ hrd))) (by decide) ?_))
   | ((refine z_isdst 18 ?_; refine o_callx1 Try.func36 rfl rfl rfl (rall_c s _) (by decide) (by decide) fun v2 _ => ?_))
   | refine z_mono0www ?_
   | ((refine z_isdst 23 ?_; refine o_callx1 Try.func48 rfl rfl rfl (rows_c (rws s) (rws_ok s) A c _ (hrd.sub (List.sublist_append_right [_, _, _, _, _] _))) (by decide) (by decide) fun x _ => ?_))
   | ((refine z_isdst 25 ?_; refine o_callx1 Try.func49 rfl rfl rfl (rrows_s s _) (by decide) (by decide) fun y _ => ?_))
   | refine z_mono0ww ?_
   | (refine s_is ?_; first
   | (refine c_free0 ⟨[9, 11, 12, 18], []⟩ [0, 2, 1, 3, 4, 5, 6, 7, 8, 9, 10, 11, 12, 13] (id := 1) mixed (by kernel_rfl) ?_)
   | (refine c_free0 ⟨[23, 25], []⟩ [0, 2, 1, 3, 4, 5] (id := 3) mixed (by kernel_rfl) ?_)
   | (refine s_isw ?_; first
   | (refine s_isloop ?_; first
   | ((refine c_loop (X := Nat) (fun k => k ≤ (rws s).length) (fun k => [(5, .slice x.1 (rws s).length x.2), (6, .slice y.1 (rws s).length y.2), (7, .int .i64 k)]) (fun _ => own y.1 y.2 102 2 (rws s).length (rc (rws s)) :: own x.1 x.2 102 2 (rws s).length (rc (rws s)) :: fr) (fun k => (rws s).length - k) 0 (Nat.zero_le _) ⟨rfl, rfl, rfl, trivial⟩ (fun w h => ((h.sel 7 [0, 1, 2, 3, 4, 5, 6] (by decide)).mask [true, true, false, false, false, false, false])) (fun k hk => ?_); refine c_own2 0 rfl fun hkc1 hne1 => ?_; refine c_own2 1 rfl fun hkc2 hne2 => ?_; refine hold ?_)))
   | refine c_seq ?_
   | refine c_block ?_
   | refine c_region ?_
   | refine c_skip ?_
   | (refine s_iscond ?_; first
   | (refine c_false rfl (by first | with_reducible rfl | with_reducible assumption | ((with_reducible refine decide_eq_false ?_); first | with_reducible assumption | omega)) ?_))))
   | (refine z_isg0 ?_; first
   | (refine z_want0 rfl rfl (by first | (simp only [Bool.not_eq_false', decide_eq_true_eq]; omega) | (with_reducible assumption) | (rw [decide_eq_false] <;> (first | omega | with_reducible rfl)) | (rw [decide_eq_true] <;> (first | omega | with_reducible rfl)) | (simp; done) | (simp; omega)) ?_))
   | (refine z_isnil ?_; first
   | refine z_list ?_)
   | (refine z_isop ?_; first
   | refine o_boxa (vs := [.slice A (rws s).length c]) rfl rfl (by decide) fun ga => ?_
   | refine o_boxa (vs := bs s) rfl rfl (by decide) fun gb => ?_
   | (refine z_isbin ?_; first
   | (refine z_isb .neq ?_; first
   | refine o_ne rfl rfl (by decide) ?_))
   | (refine z_isload ?_; first
   | (refine z_ldw tabOk rfl rfl ?_; first
   | (refine o_loadwm tabOk rfl rfl rfl (by repeat' (first | exact List.mem_cons_self | apply List.mem_cons_of_mem)) (by first | rfl | exact bs_len _ | exact rcs_len _ | (simp only [bs_len, rcs_len]; done) | rfl) (by decide) ?_)))
   | (refine z_ispick ?_; first
   | (refine o_pick0 rfl (by first | (simp only [Bool.not_eq_false', decide_eq_true_eq]; omega) | (with_reducible assumption) | (rw [decide_eq_false] <;> (first | omega | with_reducible rfl)) | (rw [decide_eq_true] <;> (first | omega | with_reducible rfl)) | (simp; done) | (simp; omega)) rfl (by decide) ?_))
   | (refine z_isbi ?_; first
   | refine o_len tabOk rfl rfl (by decide) ?_)
   | refine o_move rfl (by decide) ?_
   | refine o_assign rfl (by decide) ?_
   | refine o_not rfl (by decide) ?_))
  refine Hold.go ?_
  by_cases hl : k < (rws s).length
  · have he : (!eqB (rcs (at' (rws s) k)) (rcs (at' (rws s) k))) = false := by rw [rcs_same]; rfl
    repeat' (first
     | ((refine z_isdst 39 ?_; refine o_indexsn tabOk (hne2 (by omega)) rfl rfl rfl rfl (by omega) (by omega) (by decide) ?_))
     | ((refine z_isdst 43 ?_; refine o_indexsn tabOk (hne1 (by omega)) rfl rfl rfl rfl (by omega) (by omega) (by decide) ?_))
     | ((refine z_isdst 40 ?_; refine o_loadsw tabOk (own_rds 1 rfl) rfl rfl rfl (es := rcs (at' (rws s) k)) (rcs_len _) (by rw [rcs_len]; decide) (fun j u hu => by rw [Int.toNat_natCast]; exact rc_el (rws s) (by omega) j u hu) (by decide) ?_))
     | ((refine z_isdst 44 ?_; refine o_loadsw tabOk (own_rds 0 rfl) rfl rfl rfl (es := rcs (at' (rws s) k)) (rcs_len _) (by rw [rcs_len]; decide) (fun j u hu => by rw [Int.toNat_natCast]; exact rc_el (rws s) (by omega) j u hu) (by decide) ?_))
     | (refine s_is ?_; first
     | (refine s_isagain ?_; first
     | exact c_again (k + 1) (by omega) (by omega) ⟨rfl, rfl, rfl, trivial⟩ (fun w h => h))
     | (refine s_isw ?_; first
     | refine c_seq ?_
     | refine c_block ?_
     | refine c_region ?_
     | refine c_mixed mixed (by kernel_rfl) ?_
     | refine c_skip ?_
     | (refine s_iscond ?_; first
     | (refine c_true rfl (by first | with_reducible rfl | with_reducible assumption | ((with_reducible refine decide_eq_true ?_); first | with_reducible rfl | with_reducible assumption | omega)) ?_)
     | (refine c_false rfl (by first | with_reducible rfl | with_reducible assumption | ((with_reducible refine decide_eq_false ?_); first | with_reducible assumption | omega)) ?_))))
     | (refine z_isnil ?_; first
     | refine z_list ?_
     | refine z_mixed ?_)
     | (refine z_isop ?_; first
     | (refine z_isbin ?_; first
     | refine o_nea cmp_pair rfl rfl (rcs_typed _) (rcs_typed _) (by decide) ?_
     | (refine z_isb .add ?_; first
     | refine o_add rfl rfl (by omega) (by omega) (by decide) ?_)
     | (refine z_isb .lss ?_; first
     | refine o_lt rfl rfl (by decide) ?_))
     | (refine z_isbi ?_; first
     | refine o_len tabOk rfl rfl (by decide) ?_)
     | refine o_move rfl (by decide) ?_
     | refine o_assign rfl (by decide) ?_))
  · obtain rfl : k = (rws s).length := by omega
    repeat' (first
     | (refine s_is ?_; first
     | (refine s_isret ?_; first
     | exact f_r1 rfl (res_t rfl) () trivial rfl (fun w h => ((h.sel 2 [0, 1] (by decide)).mask [false, false])))
     | (refine s_isw ?_; first
     | refine c_seq ?_
     | refine c_region ?_
     | refine c_ret ?_
     | refine c_exit ?_
     | (refine s_iscond ?_; first
     | (refine c_false rfl (by first | with_reducible rfl | with_reducible assumption | ((with_reducible refine decide_eq_false ?_); first | with_reducible assumption | omega)) ?_))))
     | (refine z_isnil ?_; first
     | refine z_list ?_)
     | (refine z_isop ?_; first
     | (refine z_isbin ?_; first
     | (refine z_isb .lss ?_; first
     | refine o_lt rfl rfl (by decide) ?_))
     | (refine z_isbi ?_; first
     | refine o_len tabOk rfl rfl (by decide) ?_)
     | refine o_move rfl (by decide) ?_
     | refine o_assign rfl (by decide) ?_))
end Go.Proofs.Ytfegdehgnhomnaa
