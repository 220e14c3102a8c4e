/-
Span: the law of the first numbers.
-/
import Derived.Test.YtjjhlkjnjbagfaaSpF
namespace Go.Proofs.Ytjjhlkjnjbagfaa
set_option linter.unusedVariables false
set_option linter.unusedSimpArgs false
open Eng
theorem i64_wf {i : Int} (h : (Lit.int .i64 i).wf = true) : -9223372036854775808 ≤ i ∧ i ≤ 9223372036854775807 := by
  simp only [Lit.wf, Bool.and_eq_true, decide_eq_true_eq] at h
  exact h
theorem rds_take {hp : List Chunk} {A : Option Addr} {cs : List Value} (h : Rds hp A cs) (k : Nat) : Rds hp A (cs.take k) := fun w hw j u hu => by
  rw [List.getElem?_take] at hu
  split at hu
  · exact h w hw j u hu
  · cases hu
theorem ilS_take (L : List Int) (k : Nat) : ilS (L.take k) = (ilS L).take k := by simp [ilS, List.map_take]
theorem all_f (O : List Rw) (T : List Int) (hO : Okr O) (hT : nm O O.length = T) (A : Option Addr) (c : Nat) (fr : List Chunk) (hrd : Rds fr A (rc O)) : Does Try.prog 32 [.agg #[.slice A O.length c]] fr (fun _ : Option Addr × Nat => True) (fun x => .slice x.1 T.length x.2) (fun x => own x.1 x.2 3 1 T.length (ilS T) :: fr) := by subst hT; exact all_c O hO A c fr hrd
theorem slen_f (O : List Rw) (T : List Int) (hO : Okr O) (hT : nm O O.length = T) (A : Option Addr) (c : Nat) (fr : List Chunk) (hrd : Rds fr A (rc O)) : Does Try.prog 29 [.agg #[.slice A O.length c]] fr (fun _ : Unit => True) (fun _ => .int .i64 T.length) (fun _ => fr) := by
  subst hT; rw [nm_len hO _ (Nat.le_refl _)]; exact slen_c O hO A c fr hrd
theorem okr_nil : Okr [] := ⟨by unfold Sep; trivial, by unfold lastTo; decide⟩
theorem within_f (O R : List Rw) (hO : Okr O) (hR : Okr R) (h : ∀ j, hasB O j = true → hasB R j = true) (A B : Option Addr) (ca cb : Nat) (fr : List Chunk) (hrdA : Rds fr A (rc O)) (hrdB : Rds fr B (rc R)) :
    Does Try.prog 26 [.agg #[.slice A O.length ca], .agg #[.slice B R.length cb]] fr (fun _ : Unit => True) (fun _ => .bool true) (fun _ => fr) := by
  have hm : ∀ j, hasB [] j = (hasB O j && !hasB R j) := fun j => by
    rw [has_nil]
    cases h1 : hasB O j with
    | false => rfl
    | true => rw [h j h1]; rfl
  have hd := within_c O R [] hO hR okr_nil hm A B ca cb fr hrdA hrdB
  have e : decide (lenN [] ([] : List Rw).length = 0) = true := by rw [List.length_nil, lenN_zero]; rfl
  rw [e] at hd
  exact hd
theorem first_s (s : Nat → Bool) (A : Option Addr) (c : Nat) (n : Int) (hn0 : -9223372036854775808 ≤ n) (hn1 : n ≤ 9223372036854775807) (fr : List Chunk) (hrd : Rds fr A (rc (rws s))) :
    Does Try.prog 30 [.agg #[.slice A (rws s).length c], .int .i64 n] fr (fun x : Option Addr × Nat × List Rw => Fst (rws s) n x.2.2) (fun x => .agg #[.slice x.1 x.2.2.length x.2.1]) (fun x => own x.1 x.2.1 84 2 x.2.2.length (rc x.2.2) :: fr) := first_c _ (rws_ok s) A c n hn0 hn1 fr hrd
attribute [local irreducible] Eng.Hold Eng.Z Eng.S Eng.cells Eng.old Eng.own rc rcs at' hasB Sep lastTo push
attribute [local irreducible] cmpR lenN ofR en mg cu ilS rg nm bs pt al rr rws layS ofS Ds.cs msk msc dse kd emp inS
set_option maxHeartbeats 8000000 in
theorem spanFirst (W : World) (A0 : Option Addr) (c0 : Nat) (D : List Ds) (n : Int) (hn0 : -9223372036854775808 ≤ n) (hn1 : n ≤ 9223372036854775807) (hrd0 : Rds [old W] A0 (D.flatMap Ds.cs)) (hx : D.length ≤ 9223372036854775807) :
    Does Try.prog 6 [.slice A0 D.length c0, .int .i64 n] [old W] (fun _ : Unit => True) (fun _ => .bool true) (fun _ => [old W]) := by
  intro w hw
  refine f_enter Try.func6 rfl Try.ntmps6 rfl hw ?_
  obtain ⟨s, hs⟩ : ∃ s, msc D = s := ⟨_, rfl⟩
  have hal := al_le s 1024
  have hnm := nm_al s
  obtain ⟨T, hT⟩ : ∃ T, (al s 1024).take n.toNat = T := ⟨_, rfl⟩
  have hTl : T.length = min n.toNat (al s 1024).length := by rw [← hT, List.length_take]
  by_cases h0 : n < 0
  · have h33 : ((0 : Int)).toNat = T.length := by rw [hTl, show n.toNat = 0 by omega]; simp
    have hTi : (T.length : Int) = 0 := by omega
    repeat' (first
     | ((refine z_isdst 12 ?_; refine o_calla Try.func19 rfl rfl rfl (smade_cs D s hs A0 c0 _ hrd0 hx) (by decide) fun x _ => ?_))
     | ((refine z_isdst 16 ?_; refine o_calla Try.func27 rfl rfl rfl (rall_c s _) (by decide) fun y _ => ?_; refine z_own2 0 rfl fun hkc hne => ?_))
     | ((refine z_isdst 28 ?_; refine o_calla Try.func30 rfl rfl rfl (first_s s _ _ n hn0 hn1 _ (by first | exact own_rds 0 rfl | exact own_rds 1 rfl | exact own_rds 2 rfl | exact own_rds 3 rfl | exact own_rds 4 rfl | exact own_rds 5 rfl | exact own_rds 6 rfl | exact own_rds 7 rfl | exact own_rds 8 rfl | exact own_rds 9 rfl | exact own_rds 10 rfl | exact own_rds 11 rfl | exact own_rds 12 rfl | assumption)) (by decide) fun z hF => ?_; obtain ⟨Z1, Z2, O⟩ := z; dsimp only at hF ⊢; have hOT : nm O O.length = T := (by rw [hF.e, hnm, hT])))
     | ((refine z_isdst 30 ?_; refine o_callx1 Try.func32 rfl rfl rfl (all_f O T hF.o hOT _ _ _ (by first | exact own_rds 0 rfl | exact own_rds 1 rfl | exact own_rds 2 rfl | exact own_rds 3 rfl | exact own_rds 4 rfl | exact own_rds 5 rfl | exact own_rds 6 rfl | exact own_rds 7 rfl | exact own_rds 8 rfl | exact own_rds 9 rfl | exact own_rds 10 rfl | exact own_rds 11 rfl | exact own_rds 12 rfl | assumption)) (by decide) (by decide) fun u1 _ => ?_))
     | ((refine z_isdst 33 ?_; refine o_sliceh tabOk rfl rfl rfl rfl (by omega) (by omega) (by decide) ?_; rw [h33]))
     | ((refine z_isdst 34 ?_; refine o_callx0 Try.func31 rfl rfl rfl (ssame_c T _ _ _ _ _ (by first | exact own_rds 0 rfl | exact own_rds 1 rfl | exact own_rds 2 rfl | exact own_rds 3 rfl | exact own_rds 4 rfl | exact own_rds 5 rfl | exact own_rds 6 rfl | exact own_rds 7 rfl | exact own_rds 8 rfl | exact own_rds 9 rfl | exact own_rds 10 rfl | exact own_rds 11 rfl | exact own_rds 12 rfl | assumption) (by rw [← hT, ilS_take]; refine rds_take ?_ _; first | exact own_rds 0 rfl | exact own_rds 1 rfl | exact own_rds 2 rfl | exact own_rds 3 rfl | exact own_rds 4 rfl | exact own_rds 5 rfl | exact own_rds 6 rfl | exact own_rds 7 rfl | exact own_rds 8 rfl | exact own_rds 9 rfl | exact own_rds 10 rfl | exact own_rds 11 rfl | exact own_rds 12 rfl | assumption) (by omega)) (by decide) (by decide) ?_))
     | ((refine z_isdst 38 ?_; refine o_callr rfl Try.func26 rfl rfl rfl (within_f O (rws s) hF.o (rws_ok s) hF.h _ _ _ _ _ (by first | exact own_rds 0 rfl | exact own_rds 1 rfl | exact own_rds 2 rfl | exact own_rds 3 rfl | exact own_rds 4 rfl | exact own_rds 5 rfl | exact own_rds 6 rfl | exact own_rds 7 rfl | exact own_rds 8 rfl | exact own_rds 9 rfl | exact own_rds 10 rfl | exact own_rds 11 rfl | exact own_rds 12 rfl | assumption) (by first | exact own_rds 0 rfl | exact own_rds 1 rfl | exact own_rds 2 rfl | exact own_rds 3 rfl | exact own_rds 4 rfl | exact own_rds 5 rfl | exact own_rds 6 rfl | exact own_rds 7 rfl | exact own_rds 8 rfl | exact own_rds 9 rfl | exact own_rds 10 rfl | exact own_rds 11 rfl | exact own_rds 12 rfl | assumption)) (by decide) ?_))
     | ((refine z_isdst 42 ?_; refine o_callr rfl Try.func29 rfl rfl rfl (slen_f O T hF.o hOT _ _ _ (by first | exact own_rds 0 rfl | exact own_rds 1 rfl | exact own_rds 2 rfl | exact own_rds 3 rfl | exact own_rds 4 rfl | exact own_rds 5 rfl | exact own_rds 6 rfl | exact own_rds 7 rfl | exact own_rds 8 rfl | exact own_rds 9 rfl | exact own_rds 10 rfl | exact own_rds 11 rfl | exact own_rds 12 rfl | assumption)) (by decide) ?_))
     | (refine s_is ?_; first
     | (refine c_free0 ⟨[30, 34], []⟩ [0, 2, 3, 4, 1, 5, 6, 7, 8, 9, 10, 11, 12, 13, 14, 15, 16, 17, 18, 19, 20] (id := 9) mixed (by kernel_rfl) ?_)
     | (refine s_isret ?_; first
     | exact f_r1 rfl (res_t rfl) () trivial rfl (fun w h => h.sub (List.sublist_append_right [_, _, _, _, _, _, _] _)))
     | (refine s_isw ?_; first
     | refine c_seq ?_
     | refine c_block ?_
     | refine c_region ?_
     | refine c_mixed mixed (by kernel_rfl) ?_
     | refine c_skip ?_
     | refine c_ret ?_
     | refine c_exit ?_
     | (refine s_iscond ?_; first
     | (refine c_true rfl (by first | with_reducible rfl | with_reducible assumption | ((with_reducible refine decide_eq_true ?_); first | with_reducible rfl | with_reducible assumption | omega)) ?_)
     | (refine c_false rfl (by first | with_reducible rfl | with_reducible assumption | ((with_reducible refine decide_eq_false ?_); first | with_reducible assumption | omega)) ?_)
     | (refine c_true rfl (by first | (simp only [Bool.not_eq_true', decide_eq_false_iff_not]; omega) | (with_reducible assumption) | (rw [decide_eq_false] <;> (first | omega | with_reducible rfl)) | (rw [decide_eq_true] <;> (first | omega | with_reducible rfl)) | (simp; done) | (simp; omega)) ?_)
     | (refine c_false rfl (by first | (simp only [Bool.not_eq_false', decide_eq_true_eq]; omega) | (with_reducible assumption) | (rw [decide_eq_false] <;> (first | omega | with_reducible rfl)) | (rw [decide_eq_true] <;> (first | omega | with_reducible rfl)) | (simp; done) | (simp; omega)) ?_)
     | refine c_cond rfl (fun hc => ?_) (fun hc => ?_)
     | refine c_condb rfl (fun hc => ?_) (fun hc => ?_)))
     | refine x_then ?_
     | refine x_then_ret ?_
     | refine x_then_exit ?_
     | refine x_block _ ?_
     | refine x_block_ret _ ?_
     | refine x_block_exit _ ?_
     | refine x_block_past (by decide) ?_
     | refine z_tailm ?_)
     | (refine z_isg1 ?_; first
     | refine z_skipu (by decide) rfl rfl ?_
     | (refine z_want1 rfl rfl (by first | with_reducible rfl | with_reducible assumption | ((with_reducible refine decide_eq_true ?_); first | with_reducible rfl | with_reducible assumption | omega)) ?_)
     | (refine z_skip1 (by decide) rfl rfl (by first | with_reducible rfl | with_reducible assumption | ((with_reducible refine decide_eq_false ?_); first | with_reducible assumption | omega)) ?_)
     | (refine z_want1 rfl rfl (by first | (simp only [Bool.not_eq_true', decide_eq_false_iff_not]; omega) | (with_reducible assumption) | (rw [decide_eq_false] <;> (first | omega | with_reducible rfl)) | (rw [decide_eq_true] <;> (first | omega | with_reducible rfl)) | (simp; done) | (simp; omega)) ?_)
     | (refine z_skip1 (by decide) rfl rfl (by first | (simp only [Bool.not_eq_false', decide_eq_true_eq]; omega) | (with_reducible assumption) | (rw [decide_eq_false] <;> (first | omega | with_reducible rfl)) | (rw [decide_eq_true] <;> (first | omega | with_reducible rfl)) | (simp; done) | (simp; omega)) ?_)
     | refine z_guard1 (by decide) rfl rfl (fun hc => ?_) (fun hc => ?_)
     | refine z_guardb (by decide) rfl rfl (fun hc => ?_) (fun hc => ?_))
     | (refine z_isnil ?_; first
     | refine z_mono0n ?_
     | refine z_list ?_
     | refine z_mixed ?_
     | refine z_mono0 ?_
     | refine z_mono1 (by decide) fun g => ?_
     | refine z_mono2 (by decide) (by decide) fun g g' => ?_
     | refine z_mixedx ?_
     | refine z_quiet ?_)
     | (refine z_isop ?_; first
     | refine o_alloca (e := 47) (vs := [.slice none 0 0]) rfl (by kernel_rfl) (by decide) fun g => ?_
     | refine o_alloca (e := 49) (vs := bs (fun _ => false)) rfl (by kernel_rfl) (by decide) fun g => ?_
     | (refine z_isbin ?_; first
     | (refine z_isb .eql ?_; first
     | refine o_eq rfl rfl (by decide) ?_
     | refine o_beq tabOk rfl rfl rfl (by decide) ?_
     | refine o_peq tabOk rfl rfl (by decide) ?_)
     | (refine z_isb .lss ?_; first
     | refine o_lt rfl rfl (by decide) ?_)
     | (refine z_isb .gtr ?_; first
     | refine o_gt rfl rfl (by decide) ?_))
     | (refine z_isload ?_; first
     | (refine z_ld1 tabOk rfl rfl ?_; first
     | refine o_loadm tabOk rfl rfl rfl (by repeat' (first | exact List.mem_cons_self | apply List.mem_cons_of_mem)) (by first | rfl | rfl) (by decide) ?_
     | refine o_loads tabOk (by first | exact own_rds 0 rfl | exact own_rds 1 rfl | exact own_rds 2 rfl | exact own_rds 3 rfl | exact own_rds 4 rfl | exact own_rds 5 rfl | exact own_rds 6 rfl | exact own_rds 7 rfl | exact own_rds 8 rfl | exact own_rds 9 rfl | exact own_rds 10 rfl | exact own_rds 11 rfl | exact own_rds 12 rfl | assumption) rfl rfl rfl (by first | rfl | rfl) (by decide) ?_)
     | (refine z_ldw tabOk rfl rfl ?_; first
     | (refine o_loadwm tabOk rfl rfl rfl (by repeat' (first | exact List.mem_cons_self | apply List.mem_cons_of_mem)) (by first | rfl | exact bs_len _ | (simp only [bs_len]; done) | rfl) (by decide) ?_)))
     | (refine z_isstore ?_; first
     | (refine z_stw rfl ?_; first
     | ((refine z_sti 0 rfl rfl ?_; refine o_storeb0 rfl tabOk rfl rfl rfl (by first | rfl | exact bs_len _ | (simp only [bs_len]; done) | rfl) (by first | rfl | exact bs_one _ | rfl) (by first | rfl | exact bs_len _ | (simp only [bs_len]; done) | rfl) ?_))
     | ((refine z_sti 1 rfl rfl ?_; refine o_storeb1 rfl tabOk rfl rfl rfl (by first | rfl | exact bs_len _ | (simp only [bs_len]; done) | rfl) (by first | rfl | exact bs_one _ | rfl) (by first | rfl | exact bs_len _ | (simp only [bs_len]; done) | rfl) ?_))
     | ((refine z_sti 2 rfl rfl ?_; refine o_storeb2 rfl tabOk rfl rfl rfl (by first | rfl | exact bs_len _ | (simp only [bs_len]; done) | rfl) (by first | rfl | exact bs_one _ | rfl) (by first | rfl | exact bs_len _ | (simp only [bs_len]; done) | rfl) ?_))
     | ((refine z_sti 3 rfl rfl ?_; refine o_storeb3 rfl tabOk rfl rfl rfl (by first | rfl | exact bs_len _ | (simp only [bs_len]; done) | rfl) (by first | rfl | exact bs_one _ | rfl) (by first | rfl | exact bs_len _ | (simp only [bs_len]; done) | rfl) ?_))
     | ((refine z_sti 4 rfl rfl ?_; refine o_storeb4 rfl tabOk rfl rfl rfl (by first | rfl | exact bs_len _ | (simp only [bs_len]; done) | rfl) (by first | rfl | exact bs_one _ | rfl) (by first | rfl | exact bs_len _ | (simp only [bs_len]; done) | rfl) ?_))
     | ((refine z_sti 5 rfl rfl ?_; refine o_storeb5 rfl tabOk rfl rfl rfl (by first | rfl | exact bs_len _ | (simp only [bs_len]; done) | rfl) (by first | rfl | exact bs_one _ | rfl) (by first | rfl | exact bs_len _ | (simp only [bs_len]; done) | rfl) ?_))
     | ((refine z_sti 6 rfl rfl ?_; refine o_storeb6 rfl tabOk rfl rfl rfl (by first | rfl | exact bs_len _ | (simp only [bs_len]; done) | rfl) (by first | rfl | exact bs_one _ | rfl) (by first | rfl | exact bs_len _ | (simp only [bs_len]; done) | rfl) ?_)))
     | (refine z_st1 rfl rfl ?_; first
     | refine o_store rfl tabOk rfl rfl rfl rfl rfl (by first | rfl | rfl) (by first | rfl) ?_
     | ((refine z_sti 1 rfl rfl ?_; refine o_store1 rfl tabOk rfl rfl rfl rfl rfl (by first | rfl | rfl) (by first | rfl) ?_))
     | ((refine z_sti 2 rfl rfl ?_; refine o_store2 rfl tabOk rfl rfl rfl rfl rfl (by first | rfl | rfl) (by first | rfl) ?_))
     | ((refine z_sti 3 rfl rfl ?_; refine o_store3 rfl tabOk rfl rfl rfl rfl rfl (by first | rfl | rfl) (by first | rfl) ?_))
     | ((refine z_sti 4 rfl rfl ?_; refine o_store4 rfl tabOk rfl rfl rfl rfl rfl (by first | rfl | rfl) (by first | rfl) ?_))
     | ((refine z_sti 5 rfl rfl ?_; refine o_store5 rfl tabOk rfl rfl rfl rfl rfl (by first | rfl | rfl) (by first | rfl) ?_))
     | ((refine z_sti 6 rfl rfl ?_; refine o_store6 rfl tabOk rfl rfl rfl rfl rfl (by first | rfl | rfl) (by first | rfl) ?_))))
     | (refine z_iscall ?_; first
     | ((refine z_iscallf 28 ?_; refine o_fn rfl Try.func28 rfl rfl rfl (sawake_p) (by decide) ?_)))
     | (refine z_ispick ?_; first
     | (refine o_pick1 rfl (by first | with_reducible rfl | with_reducible assumption | ((with_reducible refine decide_eq_true ?_); first | with_reducible rfl | with_reducible assumption | omega)) rfl (by decide) ?_)
     | (refine o_pick0 rfl (by first | with_reducible rfl | with_reducible assumption | ((with_reducible refine decide_eq_false ?_); first | with_reducible assumption | omega)) rfl (by decide) ?_)
     | (refine o_pick1 rfl (by first | (simp only [Bool.not_eq_true', decide_eq_false_iff_not]; omega) | (with_reducible assumption) | (rw [decide_eq_false] <;> (first | omega | with_reducible rfl)) | (rw [decide_eq_true] <;> (first | omega | with_reducible rfl)) | (simp; done) | (simp; omega)) rfl (by decide) ?_)
     | (refine o_pick0 rfl (by first | (simp only [Bool.not_eq_false', decide_eq_true_eq]; omega) | (with_reducible assumption) | (rw [decide_eq_false] <;> (first | omega | with_reducible rfl)) | (rw [decide_eq_true] <;> (first | omega | with_reducible rfl)) | (simp; done) | (simp; omega)) rfl (by decide) ?_))
     | (refine z_isslice ?_; first
     | refine o_slpl1 tabOk rfl rfl rfl rfl (by omega) (by omega) (by decide) ?_
     | refine o_slicelk1 tabOk rfl rfl rfl rfl (by omega) (by omega) (by omega) (by omega) (by decide) ?_
     | refine o_slice tabOk rfl rfl rfl rfl rfl (by omega) (by omega) (by omega) (by decide) ?_
     | refine o_slicel tabOk rfl rfl rfl rfl (by omega) (by omega) (by omega) (by decide) ?_
     | refine o_sliceh tabOk rfl rfl rfl rfl (by omega) (by omega) (by decide) ?_
     | refine o_slp tabOk rfl rfl rfl rfl rfl (by omega) (by omega) (by omega) (by omega) (by decide) ?_
     | refine o_slpl tabOk rfl rfl rfl rfl (by omega) (by omega) (by decide) ?_
     | refine o_slp0 tabOk rfl rfl rfl rfl (by decide) ?_)
     | (refine z_isbi ?_; first
     | refine o_len tabOk rfl rfl (by decide) ?_
     | refine o_min rfl rfl (by decide) ?_
     | refine o_max rfl rfl (by decide) ?_)
     | refine o_move rfl (by decide) ?_
     | refine o_assign rfl (by decide) ?_
     | refine o_nil rfl (by decide) ?_
     | refine o_extract rfl rfl (by decide) ?_
     | refine o_not rfl (by decide) ?_
     | refine o_field0 tabOk rfl rfl rfl rfl rfl (by decide) ?_
     | refine o_field tabOk rfl rfl rfl rfl rfl (by decide) ?_
     | refine o_conv tabOk rfl rfl rfl (by decide) ?_))
  · by_cases h1 : ((al s 1024).length : Int) < n
    · have h33 : (((al s 1024).length : Int)).toNat = T.length := by rw [hTl]; omega
      have hTi : (T.length : Int) = ((al s 1024).length : Int) := by omega
      repeat' (first
       | ((refine z_isdst 12 ?_; refine o_calla Try.func19 rfl rfl rfl (smade_cs D s hs A0 c0 _ hrd0 hx) (by decide) fun x _ => ?_))
       | ((refine z_isdst 16 ?_; refine o_calla Try.func27 rfl rfl rfl (rall_c s _) (by decide) fun y _ => ?_; refine z_own2 0 rfl fun hkc hne => ?_))
       | ((refine z_isdst 28 ?_; refine o_calla Try.func30 rfl rfl rfl (first_s s _ _ n hn0 hn1 _ (by first | exact own_rds 0 rfl | exact own_rds 1 rfl | exact own_rds 2 rfl | exact own_rds 3 rfl | exact own_rds 4 rfl | exact own_rds 5 rfl | exact own_rds 6 rfl | exact own_rds 7 rfl | exact own_rds 8 rfl | exact own_rds 9 rfl | exact own_rds 10 rfl | exact own_rds 11 rfl | exact own_rds 12 rfl | assumption)) (by decide) fun z hF => ?_; obtain ⟨Z1, Z2, O⟩ := z; dsimp only at hF ⊢; have hOT : nm O O.length = T := (by rw [hF.e, hnm, hT])))
       | ((refine z_isdst 30 ?_; refine o_callx1 Try.func32 rfl rfl rfl (all_f O T hF.o hOT _ _ _ (by first | exact own_rds 0 rfl | exact own_rds 1 rfl | exact own_rds 2 rfl | exact own_rds 3 rfl | exact own_rds 4 rfl | exact own_rds 5 rfl | exact own_rds 6 rfl | exact own_rds 7 rfl | exact own_rds 8 rfl | exact own_rds 9 rfl | exact own_rds 10 rfl | exact own_rds 11 rfl | exact own_rds 12 rfl | assumption)) (by decide) (by decide) fun u1 _ => ?_))
       | ((refine z_isdst 33 ?_; refine o_sliceh tabOk rfl rfl rfl rfl (by omega) (by omega) (by decide) ?_; rw [h33]))
       | ((refine z_isdst 34 ?_; refine o_callx0 Try.func31 rfl rfl rfl (ssame_c T _ _ _ _ _ (by first | exact own_rds 0 rfl | exact own_rds 1 rfl | exact own_rds 2 rfl | exact own_rds 3 rfl | exact own_rds 4 rfl | exact own_rds 5 rfl | exact own_rds 6 rfl | exact own_rds 7 rfl | exact own_rds 8 rfl | exact own_rds 9 rfl | exact own_rds 10 rfl | exact own_rds 11 rfl | exact own_rds 12 rfl | assumption) (by rw [← hT, ilS_take]; refine rds_take ?_ _; first | exact own_rds 0 rfl | exact own_rds 1 rfl | exact own_rds 2 rfl | exact own_rds 3 rfl | exact own_rds 4 rfl | exact own_rds 5 rfl | exact own_rds 6 rfl | exact own_rds 7 rfl | exact own_rds 8 rfl | exact own_rds 9 rfl | exact own_rds 10 rfl | exact own_rds 11 rfl | exact own_rds 12 rfl | assumption) (by omega)) (by decide) (by decide) ?_))
       | ((refine z_isdst 38 ?_; refine o_callr rfl Try.func26 rfl rfl rfl (within_f O (rws s) hF.o (rws_ok s) hF.h _ _ _ _ _ (by first | exact own_rds 0 rfl | exact own_rds 1 rfl | exact own_rds 2 rfl | exact own_rds 3 rfl | exact own_rds 4 rfl | exact own_rds 5 rfl | exact own_rds 6 rfl | exact own_rds 7 rfl | exact own_rds 8 rfl | exact own_rds 9 rfl | exact own_rds 10 rfl | exact own_rds 11 rfl | exact own_rds 12 rfl | assumption) (by first | exact own_rds 0 rfl | exact own_rds 1 rfl | exact own_rds 2 rfl | exact own_rds 3 rfl | exact own_rds 4 rfl | exact own_rds 5 rfl | exact own_rds 6 rfl | exact own_rds 7 rfl | exact own_rds 8 rfl | exact own_rds 9 rfl | exact own_rds 10 rfl | exact own_rds 11 rfl | exact own_rds 12 rfl | assumption)) (by decide) ?_))
       | ((refine z_isdst 42 ?_; refine o_callr rfl Try.func29 rfl rfl rfl (slen_f O T hF.o hOT _ _ _ (by first | exact own_rds 0 rfl | exact own_rds 1 rfl | exact own_rds 2 rfl | exact own_rds 3 rfl | exact own_rds 4 rfl | exact own_rds 5 rfl | exact own_rds 6 rfl | exact own_rds 7 rfl | exact own_rds 8 rfl | exact own_rds 9 rfl | exact own_rds 10 rfl | exact own_rds 11 rfl | exact own_rds 12 rfl | assumption)) (by decide) ?_))
       | (refine s_is ?_; first
       | (refine c_free0 ⟨[30, 34], []⟩ [0, 2, 3, 4, 1, 5, 6, 7, 8, 9, 10, 11, 12, 13, 14, 15, 16, 17, 18, 19, 20] (id := 9) mixed (by kernel_rfl) ?_)
       | (refine s_isret ?_; first
       | exact f_r1 rfl (res_t rfl) () trivial rfl (fun w h => h.sub (List.sublist_append_right [_, _, _, _, _, _, _] _)))
       | (refine s_isw ?_; first
       | refine c_seq ?_
       | refine c_block ?_
       | refine c_region ?_
       | refine c_mixed mixed (by kernel_rfl) ?_
       | refine c_skip ?_
       | refine c_ret ?_
       | refine c_exit ?_
       | (refine s_iscond ?_; first
       | (refine c_true rfl (by first | with_reducible rfl | with_reducible assumption | ((with_reducible refine decide_eq_true ?_); first | with_reducible rfl | with_reducible assumption | omega)) ?_)
       | (refine c_false rfl (by first | with_reducible rfl | with_reducible assumption | ((with_reducible refine decide_eq_false ?_); first | with_reducible assumption | omega)) ?_)
       | (refine c_true rfl (by first | (simp only [Bool.not_eq_true', decide_eq_false_iff_not]; omega) | (with_reducible assumption) | (rw [decide_eq_false] <;> (first | omega | with_reducible rfl)) | (rw [decide_eq_true] <;> (first | omega | with_reducible rfl)) | (simp; done) | (simp; omega)) ?_)
       | (refine c_false rfl (by first | (simp only [Bool.not_eq_false', decide_eq_true_eq]; omega) | (with_reducible assumption) | (rw [decide_eq_false] <;> (first | omega | with_reducible rfl)) | (rw [decide_eq_true] <;> (first | omega | with_reducible rfl)) | (simp; done) | (simp; omega)) ?_)
       | refine c_cond rfl (fun hc => ?_) (fun hc => ?_)
       | refine c_condb rfl (fun hc => ?_) (fun hc => ?_)))
       | refine x_then ?_
       | refine x_then_ret ?_
       | refine x_then_exit ?_
       | refine x_block _ ?_
       | refine x_block_ret _ ?_
       | refine x_block_exit _ ?_
       | refine x_block_past (by decide) ?_
       | refine z_tailm ?_)
       | (refine z_isg1 ?_; first
       | refine z_skipu (by decide) rfl rfl ?_
       | (refine z_want1 rfl rfl (by first | with_reducible rfl | with_reducible assumption | ((with_reducible refine decide_eq_true ?_); first | with_reducible rfl | with_reducible assumption | omega)) ?_)
       | (refine z_skip1 (by decide) rfl rfl (by first | with_reducible rfl | with_reducible assumption | ((with_reducible refine decide_eq_false ?_); first | with_reducible assumption | omega)) ?_)
       | (refine z_want1 rfl rfl (by first | (simp only [Bool.not_eq_true', decide_eq_false_iff_not]; omega) | (with_reducible assumption) | (rw [decide_eq_false] <;> (first | omega | with_reducible rfl)) | (rw [decide_eq_true] <;> (first | omega | with_reducible rfl)) | (simp; done) | (simp; omega)) ?_)
       | (refine z_skip1 (by decide) rfl rfl (by first | (simp only [Bool.not_eq_false', decide_eq_true_eq]; omega) | (with_reducible assumption) | (rw [decide_eq_false] <;> (first | omega | with_reducible rfl)) | (rw [decide_eq_true] <;> (first | omega | with_reducible rfl)) | (simp; done) | (simp; omega)) ?_)
       | refine z_guard1 (by decide) rfl rfl (fun hc => ?_) (fun hc => ?_)
       | refine z_guardb (by decide) rfl rfl (fun hc => ?_) (fun hc => ?_))
       | (refine z_isnil ?_; first
       | refine z_mono0n ?_
       | refine z_list ?_
       | refine z_mixed ?_
       | refine z_mono0 ?_
       | refine z_mono1 (by decide) fun g => ?_
       | refine z_mono2 (by decide) (by decide) fun g g' => ?_
       | refine z_mixedx ?_
       | refine z_quiet ?_)
       | (refine z_isop ?_; first
       | refine o_alloca (e := 47) (vs := [.slice none 0 0]) rfl (by kernel_rfl) (by decide) fun g => ?_
       | refine o_alloca (e := 49) (vs := bs (fun _ => false)) rfl (by kernel_rfl) (by decide) fun g => ?_
       | (refine z_isbin ?_; first
       | (refine z_isb .eql ?_; first
       | refine o_eq rfl rfl (by decide) ?_
       | refine o_beq tabOk rfl rfl rfl (by decide) ?_
       | refine o_peq tabOk rfl rfl (by decide) ?_)
       | (refine z_isb .lss ?_; first
       | refine o_lt rfl rfl (by decide) ?_)
       | (refine z_isb .gtr ?_; first
       | refine o_gt rfl rfl (by decide) ?_))
       | (refine z_isload ?_; first
       | (refine z_ld1 tabOk rfl rfl ?_; first
       | refine o_loadm tabOk rfl rfl rfl (by repeat' (first | exact List.mem_cons_self | apply List.mem_cons_of_mem)) (by first | rfl | rfl) (by decide) ?_
       | refine o_loads tabOk (by first | exact own_rds 0 rfl | exact own_rds 1 rfl | exact own_rds 2 rfl | exact own_rds 3 rfl | exact own_rds 4 rfl | exact own_rds 5 rfl | exact own_rds 6 rfl | exact own_rds 7 rfl | exact own_rds 8 rfl | exact own_rds 9 rfl | exact own_rds 10 rfl | exact own_rds 11 rfl | exact own_rds 12 rfl | assumption) rfl rfl rfl (by first | rfl | rfl) (by decide) ?_)
       | (refine z_ldw tabOk rfl rfl ?_; first
       | (refine o_loadwm tabOk rfl rfl rfl (by repeat' (first | exact List.mem_cons_self | apply List.mem_cons_of_mem)) (by first | rfl | exact bs_len _ | (simp only [bs_len]; done) | rfl) (by decide) ?_)))
       | (refine z_isstore ?_; first
       | (refine z_stw rfl ?_; first
       | ((refine z_sti 0 rfl rfl ?_; refine o_storeb0 rfl tabOk rfl rfl rfl (by first | rfl | exact bs_len _ | (simp only [bs_len]; done) | rfl) (by first | rfl | exact bs_one _ | rfl) (by first | rfl | exact bs_len _ | (simp only [bs_len]; done) | rfl) ?_))
       | ((refine z_sti 1 rfl rfl ?_; refine o_storeb1 rfl tabOk rfl rfl rfl (by first | rfl | exact bs_len _ | (simp only [bs_len]; done) | rfl) (by first | rfl | exact bs_one _ | rfl) (by first | rfl | exact bs_len _ | (simp only [bs_len]; done) | rfl) ?_))
       | ((refine z_sti 2 rfl rfl ?_; refine o_storeb2 rfl tabOk rfl rfl rfl (by first | rfl | exact bs_len _ | (simp only [bs_len]; done) | rfl) (by first | rfl | exact bs_one _ | rfl) (by first | rfl | exact bs_len _ | (simp only [bs_len]; done) | rfl) ?_))
       | ((refine z_sti 3 rfl rfl ?_; refine o_storeb3 rfl tabOk rfl rfl rfl (by first | rfl | exact bs_len _ | (simp only [bs_len]; done) | rfl) (by first | rfl | exact bs_one _ | rfl) (by first | rfl | exact bs_len _ | (simp only [bs_len]; done) | rfl) ?_))
       | ((refine z_sti 4 rfl rfl ?_; refine o_storeb4 rfl tabOk rfl rfl rfl (by first | rfl | exact bs_len _ | (simp only [bs_len]; done) | rfl) (by first | rfl | exact bs_one _ | rfl) (by first | rfl | exact bs_len _ | (simp only [bs_len]; done) | rfl) ?_))
       | ((refine z_sti 5 rfl rfl ?_; refine o_storeb5 rfl tabOk rfl rfl rfl (by first | rfl | exact bs_len _ | (simp only [bs_len]; done) | rfl) (by first | rfl | exact bs_one _ | rfl) (by first | rfl | exact bs_len _ | (simp only [bs_len]; done) | rfl) ?_))
       | ((refine z_sti 6 rfl rfl ?_; refine o_storeb6 rfl tabOk rfl rfl rfl (by first | rfl | exact bs_len _ | (simp only [bs_len]; done) | rfl) (by first | rfl | exact bs_one _ | rfl) (by first | rfl | exact bs_len _ | (simp only [bs_len]; done) | rfl) ?_)))
       | (refine z_st1 rfl rfl ?_; first
       | refine o_store rfl tabOk rfl rfl rfl rfl rfl (by first | rfl | rfl) (by first | rfl) ?_
       | ((refine z_sti 1 rfl rfl ?_; refine o_store1 rfl tabOk rfl rfl rfl rfl rfl (by first | rfl | rfl) (by first | rfl) ?_))
       | ((refine z_sti 2 rfl rfl ?_; refine o_store2 rfl tabOk rfl rfl rfl rfl rfl (by first | rfl | rfl) (by first | rfl) ?_))
       | ((refine z_sti 3 rfl rfl ?_; refine o_store3 rfl tabOk rfl rfl rfl rfl rfl (by first | rfl | rfl) (by first | rfl) ?_))
       | ((refine z_sti 4 rfl rfl ?_; refine o_store4 rfl tabOk rfl rfl rfl rfl rfl (by first | rfl | rfl) (by first | rfl) ?_))
       | ((refine z_sti 5 rfl rfl ?_; refine o_store5 rfl tabOk rfl rfl rfl rfl rfl (by first | rfl | rfl) (by first | rfl) ?_))
       | ((refine z_sti 6 rfl rfl ?_; refine o_store6 rfl tabOk rfl rfl rfl rfl rfl (by first | rfl | rfl) (by first | rfl) ?_))))
       | (refine z_iscall ?_; first
       | ((refine z_iscallf 28 ?_; refine o_fn rfl Try.func28 rfl rfl rfl (sawake_p) (by decide) ?_)))
       | (refine z_ispick ?_; first
       | (refine o_pick1 rfl (by first | with_reducible rfl | with_reducible assumption | ((with_reducible refine decide_eq_true ?_); first | with_reducible rfl | with_reducible assumption | omega)) rfl (by decide) ?_)
       | (refine o_pick0 rfl (by first | with_reducible rfl | with_reducible assumption | ((with_reducible refine decide_eq_false ?_); first | with_reducible assumption | omega)) rfl (by decide) ?_)
       | (refine o_pick1 rfl (by first | (simp only [Bool.not_eq_true', decide_eq_false_iff_not]; omega) | (with_reducible assumption) | (rw [decide_eq_false] <;> (first | omega | with_reducible rfl)) | (rw [decide_eq_true] <;> (first | omega | with_reducible rfl)) | (simp; done) | (simp; omega)) rfl (by decide) ?_)
       | (refine o_pick0 rfl (by first | (simp only [Bool.not_eq_false', decide_eq_true_eq]; omega) | (with_reducible assumption) | (rw [decide_eq_false] <;> (first | omega | with_reducible rfl)) | (rw [decide_eq_true] <;> (first | omega | with_reducible rfl)) | (simp; done) | (simp; omega)) rfl (by decide) ?_))
       | (refine z_isslice ?_; first
       | refine o_slpl1 tabOk rfl rfl rfl rfl (by omega) (by omega) (by decide) ?_
       | refine o_slicelk1 tabOk rfl rfl rfl rfl (by omega) (by omega) (by omega) (by omega) (by decide) ?_
       | refine o_slice tabOk rfl rfl rfl rfl rfl (by omega) (by omega) (by omega) (by decide) ?_
       | refine o_slicel tabOk rfl rfl rfl rfl (by omega) (by omega) (by omega) (by decide) ?_
       | refine o_sliceh tabOk rfl rfl rfl rfl (by omega) (by omega) (by decide) ?_
       | refine o_slp tabOk rfl rfl rfl rfl rfl (by omega) (by omega) (by omega) (by omega) (by decide) ?_
       | refine o_slpl tabOk rfl rfl rfl rfl (by omega) (by omega) (by decide) ?_
       | refine o_slp0 tabOk rfl rfl rfl rfl (by decide) ?_)
       | (refine z_isbi ?_; first
       | refine o_len tabOk rfl rfl (by decide) ?_
       | refine o_min rfl rfl (by decide) ?_
       | refine o_max rfl rfl (by decide) ?_)
       | refine o_move rfl (by decide) ?_
       | refine o_assign rfl (by decide) ?_
       | refine o_nil rfl (by decide) ?_
       | refine o_extract rfl rfl (by decide) ?_
       | refine o_not rfl (by decide) ?_
       | refine o_field0 tabOk rfl rfl rfl rfl rfl (by decide) ?_
       | refine o_field tabOk rfl rfl rfl rfl rfl (by decide) ?_
       | refine o_conv tabOk rfl rfl rfl (by decide) ?_))
    · have h33 : n.toNat = T.length := by rw [hTl]; omega
      have hTi : (T.length : Int) = n := by omega
      repeat' (first
       | ((refine z_isdst 12 ?_; refine o_calla Try.func19 rfl rfl rfl (smade_cs D s hs A0 c0 _ hrd0 hx) (by decide) fun x _ => ?_))
       | ((refine z_isdst 16 ?_; refine o_calla Try.func27 rfl rfl rfl (rall_c s _) (by decide) fun y _ => ?_; refine z_own2 0 rfl fun hkc hne => ?_))
       | ((refine z_isdst 28 ?_; refine o_calla Try.func30 rfl rfl rfl (first_s s _ _ n hn0 hn1 _ (by first | exact own_rds 0 rfl | exact own_rds 1 rfl | exact own_rds 2 rfl | exact own_rds 3 rfl | exact own_rds 4 rfl | exact own_rds 5 rfl | exact own_rds 6 rfl | exact own_rds 7 rfl | exact own_rds 8 rfl | exact own_rds 9 rfl | exact own_rds 10 rfl | exact own_rds 11 rfl | exact own_rds 12 rfl | assumption)) (by decide) fun z hF => ?_; obtain ⟨Z1, Z2, O⟩ := z; dsimp only at hF ⊢; have hOT : nm O O.length = T := (by rw [hF.e, hnm, hT])))
       | ((refine z_isdst 30 ?_; refine o_callx1 Try.func32 rfl rfl rfl (all_f O T hF.o hOT _ _ _ (by first | exact own_rds 0 rfl | exact own_rds 1 rfl | exact own_rds 2 rfl | exact own_rds 3 rfl | exact own_rds 4 rfl | exact own_rds 5 rfl | exact own_rds 6 rfl | exact own_rds 7 rfl | exact own_rds 8 rfl | exact own_rds 9 rfl | exact own_rds 10 rfl | exact own_rds 11 rfl | exact own_rds 12 rfl | assumption)) (by decide) (by decide) fun u1 _ => ?_))
       | ((refine z_isdst 33 ?_; refine o_sliceh tabOk rfl rfl rfl rfl (by omega) (by omega) (by decide) ?_; rw [h33]))
       | ((refine z_isdst 34 ?_; refine o_callx0 Try.func31 rfl rfl rfl (ssame_c T _ _ _ _ _ (by first | exact own_rds 0 rfl | exact own_rds 1 rfl | exact own_rds 2 rfl | exact own_rds 3 rfl | exact own_rds 4 rfl | exact own_rds 5 rfl | exact own_rds 6 rfl | exact own_rds 7 rfl | exact own_rds 8 rfl | exact own_rds 9 rfl | exact own_rds 10 rfl | exact own_rds 11 rfl | exact own_rds 12 rfl | assumption) (by rw [← hT, ilS_take]; refine rds_take ?_ _; first | exact own_rds 0 rfl | exact own_rds 1 rfl | exact own_rds 2 rfl | exact own_rds 3 rfl | exact own_rds 4 rfl | exact own_rds 5 rfl | exact own_rds 6 rfl | exact own_rds 7 rfl | exact own_rds 8 rfl | exact own_rds 9 rfl | exact own_rds 10 rfl | exact own_rds 11 rfl | exact own_rds 12 rfl | assumption) (by omega)) (by decide) (by decide) ?_))
       | ((refine z_isdst 38 ?_; refine o_callr rfl Try.func26 rfl rfl rfl (within_f O (rws s) hF.o (rws_ok s) hF.h _ _ _ _ _ (by first | exact own_rds 0 rfl | exact own_rds 1 rfl | exact own_rds 2 rfl | exact own_rds 3 rfl | exact own_rds 4 rfl | exact own_rds 5 rfl | exact own_rds 6 rfl | exact own_rds 7 rfl | exact own_rds 8 rfl | exact own_rds 9 rfl | exact own_rds 10 rfl | exact own_rds 11 rfl | exact own_rds 12 rfl | assumption) (by first | exact own_rds 0 rfl | exact own_rds 1 rfl | exact own_rds 2 rfl | exact own_rds 3 rfl | exact own_rds 4 rfl | exact own_rds 5 rfl | exact own_rds 6 rfl | exact own_rds 7 rfl | exact own_rds 8 rfl | exact own_rds 9 rfl | exact own_rds 10 rfl | exact own_rds 11 rfl | exact own_rds 12 rfl | assumption)) (by decide) ?_))
       | ((refine z_isdst 42 ?_; refine o_callr rfl Try.func29 rfl rfl rfl (slen_f O T hF.o hOT _ _ _ (by first | exact own_rds 0 rfl | exact own_rds 1 rfl | exact own_rds 2 rfl | exact own_rds 3 rfl | exact own_rds 4 rfl | exact own_rds 5 rfl | exact own_rds 6 rfl | exact own_rds 7 rfl | exact own_rds 8 rfl | exact own_rds 9 rfl | exact own_rds 10 rfl | exact own_rds 11 rfl | exact own_rds 12 rfl | assumption)) (by decide) ?_))
       | (refine s_is ?_; first
       | (refine c_free0 ⟨[30, 34], []⟩ [0, 2, 3, 4, 1, 5, 6, 7, 8, 9, 10, 11, 12, 13, 14, 15, 16, 17, 18, 19, 20] (id := 9) mixed (by kernel_rfl) ?_)
       | (refine s_isret ?_; first
       | exact f_r1 rfl (res_t rfl) () trivial rfl (fun w h => h.sub (List.sublist_append_right [_, _, _, _, _, _, _] _)))
       | (refine s_isw ?_; first
       | refine c_seq ?_
       | refine c_block ?_
       | refine c_region ?_
       | refine c_mixed mixed (by kernel_rfl) ?_
       | refine c_skip ?_
       | refine c_ret ?_
       | refine c_exit ?_
       | (refine s_iscond ?_; first
       | (refine c_true rfl (by first | with_reducible rfl | with_reducible assumption | ((with_reducible refine decide_eq_true ?_); first | with_reducible rfl | with_reducible assumption | omega)) ?_)
       | (refine c_false rfl (by first | with_reducible rfl | with_reducible assumption | ((with_reducible refine decide_eq_false ?_); first | with_reducible assumption | omega)) ?_)
       | (refine c_true rfl (by first | (simp only [Bool.not_eq_true', decide_eq_false_iff_not]; omega) | (with_reducible assumption) | (rw [decide_eq_false] <;> (first | omega | with_reducible rfl)) | (rw [decide_eq_true] <;> (first | omega | with_reducible rfl)) | (simp; done) | (simp; omega)) ?_)
       | (refine c_false rfl (by first | (simp only [Bool.not_eq_false', decide_eq_true_eq]; omega) | (with_reducible assumption) | (rw [decide_eq_false] <;> (first | omega | with_reducible rfl)) | (rw [decide_eq_true] <;> (first | omega | with_reducible rfl)) | (simp; done) | (simp; omega)) ?_)
       | refine c_cond rfl (fun hc => ?_) (fun hc => ?_)
       | refine c_condb rfl (fun hc => ?_) (fun hc => ?_)))
       | refine x_then ?_
       | refine x_then_ret ?_
       | refine x_then_exit ?_
       | refine x_block _ ?_
       | refine x_block_ret _ ?_
       | refine x_block_exit _ ?_
       | refine x_block_past (by decide) ?_
       | refine z_tailm ?_)
       | (refine z_isg1 ?_; first
       | refine z_skipu (by decide) rfl rfl ?_
       | (refine z_want1 rfl rfl (by first | with_reducible rfl | with_reducible assumption | ((with_reducible refine decide_eq_true ?_); first | with_reducible rfl | with_reducible assumption | omega)) ?_)
       | (refine z_skip1 (by decide) rfl rfl (by first | with_reducible rfl | with_reducible assumption | ((with_reducible refine decide_eq_false ?_); first | with_reducible assumption | omega)) ?_)
       | (refine z_want1 rfl rfl (by first | (simp only [Bool.not_eq_true', decide_eq_false_iff_not]; omega) | (with_reducible assumption) | (rw [decide_eq_false] <;> (first | omega | with_reducible rfl)) | (rw [decide_eq_true] <;> (first | omega | with_reducible rfl)) | (simp; done) | (simp; omega)) ?_)
       | (refine z_skip1 (by decide) rfl rfl (by first | (simp only [Bool.not_eq_false', decide_eq_true_eq]; omega) | (with_reducible assumption) | (rw [decide_eq_false] <;> (first | omega | with_reducible rfl)) | (rw [decide_eq_true] <;> (first | omega | with_reducible rfl)) | (simp; done) | (simp; omega)) ?_)
       | refine z_guard1 (by decide) rfl rfl (fun hc => ?_) (fun hc => ?_)
       | refine z_guardb (by decide) rfl rfl (fun hc => ?_) (fun hc => ?_))
       | (refine z_isnil ?_; first
       | refine z_mono0n ?_
       | refine z_list ?_
       | refine z_mixed ?_
       | refine z_mono0 ?_
       | refine z_mono1 (by decide) fun g => ?_
       | refine z_mono2 (by decide) (by decide) fun g g' => ?_
       | refine z_mixedx ?_
       | refine z_quiet ?_)
       | (refine z_isop ?_; first
       | refine o_alloca (e := 47) (vs := [.slice none 0 0]) rfl (by kernel_rfl) (by decide) fun g => ?_
       | refine o_alloca (e := 49) (vs := bs (fun _ => false)) rfl (by kernel_rfl) (by decide) fun g => ?_
       | (refine z_isbin ?_; first
       | (refine z_isb .eql ?_; first
       | refine o_eq rfl rfl (by decide) ?_
       | refine o_beq tabOk rfl rfl rfl (by decide) ?_
       | refine o_peq tabOk rfl rfl (by decide) ?_)
       | (refine z_isb .lss ?_; first
       | refine o_lt rfl rfl (by decide) ?_)
       | (refine z_isb .gtr ?_; first
       | refine o_gt rfl rfl (by decide) ?_))
       | (refine z_isload ?_; first
       | (refine z_ld1 tabOk rfl rfl ?_; first
       | refine o_loadm tabOk rfl rfl rfl (by repeat' (first | exact List.mem_cons_self | apply List.mem_cons_of_mem)) (by first | rfl | rfl) (by decide) ?_
       | refine o_loads tabOk (by first | exact own_rds 0 rfl | exact own_rds 1 rfl | exact own_rds 2 rfl | exact own_rds 3 rfl | exact own_rds 4 rfl | exact own_rds 5 rfl | exact own_rds 6 rfl | exact own_rds 7 rfl | exact own_rds 8 rfl | exact own_rds 9 rfl | exact own_rds 10 rfl | exact own_rds 11 rfl | exact own_rds 12 rfl | assumption) rfl rfl rfl (by first | rfl | rfl) (by decide) ?_)
       | (refine z_ldw tabOk rfl rfl ?_; first
       | (refine o_loadwm tabOk rfl rfl rfl (by repeat' (first | exact List.mem_cons_self | apply List.mem_cons_of_mem)) (by first | rfl | exact bs_len _ | (simp only [bs_len]; done) | rfl) (by decide) ?_)))
       | (refine z_isstore ?_; first
       | (refine z_stw rfl ?_; first
       | ((refine z_sti 0 rfl rfl ?_; refine o_storeb0 rfl tabOk rfl rfl rfl (by first | rfl | exact bs_len _ | (simp only [bs_len]; done) | rfl) (by first | rfl | exact bs_one _ | rfl) (by first | rfl | exact bs_len _ | (simp only [bs_len]; done) | rfl) ?_))
       | ((refine z_sti 1 rfl rfl ?_; refine o_storeb1 rfl tabOk rfl rfl rfl (by first | rfl | exact bs_len _ | (simp only [bs_len]; done) | rfl) (by first | rfl | exact bs_one _ | rfl) (by first | rfl | exact bs_len _ | (simp only [bs_len]; done) | rfl) ?_))
       | ((refine z_sti 2 rfl rfl ?_; refine o_storeb2 rfl tabOk rfl rfl rfl (by first | rfl | exact bs_len _ | (simp only [bs_len]; done) | rfl) (by first | rfl | exact bs_one _ | rfl) (by first | rfl | exact bs_len _ | (simp only [bs_len]; done) | rfl) ?_))
       | ((refine z_sti 3 rfl rfl ?_; refine o_storeb3 rfl tabOk rfl rfl rfl (by first | rfl | exact bs_len _ | (simp only [bs_len]; done) | rfl) (by first | rfl | exact bs_one _ | rfl) (by first | rfl | exact bs_len _ | (simp only [bs_len]; done) | rfl) ?_))
       | ((refine z_sti 4 rfl rfl ?_; refine o_storeb4 rfl tabOk rfl rfl rfl (by first | rfl | exact bs_len _ | (simp only [bs_len]; done) | rfl) (by first | rfl | exact bs_one _ | rfl) (by first | rfl | exact bs_len _ | (simp only [bs_len]; done) | rfl) ?_))
       | ((refine z_sti 5 rfl rfl ?_; refine o_storeb5 rfl tabOk rfl rfl rfl (by first | rfl | exact bs_len _ | (simp only [bs_len]; done) | rfl) (by first | rfl | exact bs_one _ | rfl) (by first | rfl | exact bs_len _ | (simp only [bs_len]; done) | rfl) ?_))
       | ((refine z_sti 6 rfl rfl ?_; refine o_storeb6 rfl tabOk rfl rfl rfl (by first | rfl | exact bs_len _ | (simp only [bs_len]; done) | rfl) (by first | rfl | exact bs_one _ | rfl) (by first | rfl | exact bs_len _ | (simp only [bs_len]; done) | rfl) ?_)))
       | (refine z_st1 rfl rfl ?_; first
       | refine o_store rfl tabOk rfl rfl rfl rfl rfl (by first | rfl | rfl) (by first | rfl) ?_
       | ((refine z_sti 1 rfl rfl ?_; refine o_store1 rfl tabOk rfl rfl rfl rfl rfl (by first | rfl | rfl) (by first | rfl) ?_))
       | ((refine z_sti 2 rfl rfl ?_; refine o_store2 rfl tabOk rfl rfl rfl rfl rfl (by first | rfl | rfl) (by first | rfl) ?_))
       | ((refine z_sti 3 rfl rfl ?_; refine o_store3 rfl tabOk rfl rfl rfl rfl rfl (by first | rfl | rfl) (by first | rfl) ?_))
       | ((refine z_sti 4 rfl rfl ?_; refine o_store4 rfl tabOk rfl rfl rfl rfl rfl (by first | rfl | rfl) (by first | rfl) ?_))
       | ((refine z_sti 5 rfl rfl ?_; refine o_store5 rfl tabOk rfl rfl rfl rfl rfl (by first | rfl | rfl) (by first | rfl) ?_))
       | ((refine z_sti 6 rfl rfl ?_; refine o_store6 rfl tabOk rfl rfl rfl rfl rfl (by first | rfl | rfl) (by first | rfl) ?_))))
       | (refine z_iscall ?_; first
       | ((refine z_iscallf 28 ?_; refine o_fn rfl Try.func28 rfl rfl rfl (sawake_p) (by decide) ?_)))
       | (refine z_ispick ?_; first
       | (refine o_pick1 rfl (by first | with_reducible rfl | with_reducible assumption | ((with_reducible refine decide_eq_true ?_); first | with_reducible rfl | with_reducible assumption | omega)) rfl (by decide) ?_)
       | (refine o_pick0 rfl (by first | with_reducible rfl | with_reducible assumption | ((with_reducible refine decide_eq_false ?_); first | with_reducible assumption | omega)) rfl (by decide) ?_)
       | (refine o_pick1 rfl (by first | (simp only [Bool.not_eq_true', decide_eq_false_iff_not]; omega) | (with_reducible assumption) | (rw [decide_eq_false] <;> (first | omega | with_reducible rfl)) | (rw [decide_eq_true] <;> (first | omega | with_reducible rfl)) | (simp; done) | (simp; omega)) rfl (by decide) ?_)
       | (refine o_pick0 rfl (by first | (simp only [Bool.not_eq_false', decide_eq_true_eq]; omega) | (with_reducible assumption) | (rw [decide_eq_false] <;> (first | omega | with_reducible rfl)) | (rw [decide_eq_true] <;> (first | omega | with_reducible rfl)) | (simp; done) | (simp; omega)) rfl (by decide) ?_))
       | (refine z_isslice ?_; first
       | refine o_slpl1 tabOk rfl rfl rfl rfl (by omega) (by omega) (by decide) ?_
       | refine o_slicelk1 tabOk rfl rfl rfl rfl (by omega) (by omega) (by omega) (by omega) (by decide) ?_
       | refine o_slice tabOk rfl rfl rfl rfl rfl (by omega) (by omega) (by omega) (by decide) ?_
       | refine o_slicel tabOk rfl rfl rfl rfl (by omega) (by omega) (by omega) (by decide) ?_
       | refine o_sliceh tabOk rfl rfl rfl rfl (by omega) (by omega) (by decide) ?_
       | refine o_slp tabOk rfl rfl rfl rfl rfl (by omega) (by omega) (by omega) (by omega) (by decide) ?_
       | refine o_slpl tabOk rfl rfl rfl rfl (by omega) (by omega) (by decide) ?_
       | refine o_slp0 tabOk rfl rfl rfl rfl (by decide) ?_)
       | (refine z_isbi ?_; first
       | refine o_len tabOk rfl rfl (by decide) ?_
       | refine o_min rfl rfl (by decide) ?_
       | refine o_max rfl rfl (by decide) ?_)
       | refine o_move rfl (by decide) ?_
       | refine o_assign rfl (by decide) ?_
       | refine o_nil rfl (by decide) ?_
       | refine o_extract rfl rfl (by decide) ?_
       | refine o_not rfl (by decide) ?_
       | refine o_field0 tabOk rfl rfl rfl rfl rfl (by decide) ?_
       | refine o_field tabOk rfl rfl rfl rfl rfl (by decide) ?_
       | refine o_conv tabOk rfl rfl rfl (by decide) ?_))
end Go.Proofs.Ytjjhlkjnjbagfaa
