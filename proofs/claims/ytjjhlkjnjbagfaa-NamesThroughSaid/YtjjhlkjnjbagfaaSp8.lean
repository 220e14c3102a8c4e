/-
Span: the document's? ; deeds; the set that they make; the law's own probe.
-/
import Derived.Test.YtjjhlkjnjbagfaaSp7
import Derived.Test.YtjjhlkjnjbagfaaOpen
namespace Go.Proofs.Ytjjhlkjnjbagfaa
set_option linter.unusedVariables false
set_option linter.unusedSimpArgs false
open Eng
theorem rws_rr (s : Nat → Bool) : rr s 1024 = rws s := rfl
theorem inS_lay (k : Int) (s t : Nat → Bool) (j : Int) : inS (layS k s t) j = layB k (inS s j) (inS t j) := by
  have h0 : layB k false false = false := by unfold layB; split <;> (try split) <;> rfl
  unfold inS
  cases hc : (decide (0 ≤ j) && decide (j < 1024)) with
  | true => simp only [Bool.true_and]; rfl
  | false => simp only [Bool.false_and]; exact h0.symm
theorem ofR_rws (f t : Int) : ofR f t = rws (ofS f t) := rws_eq (ofR_ok f t).s fun j => by
  rw [ofR_has]
  unfold inS ofS
  by_cases h : 0 ≤ j
  · rw [decide_eq_true h, Int.toNat_of_nonneg h]
    cases decide (f ≤ j) <;> cases decide (j < t) <;> cases decide (j < 1024) <;> rfl
  · rw [decide_eq_false h]; simp
theorem hm_with (s t : Nat → Bool) : ∀ j, hasB (rws (layS 0 s t)) j = (hasB (rws s) j || hasB (rws t) j) := fun j => by rw [rws_has, rws_has, rws_has, inS_lay]; rfl
theorem hm_without (s t : Nat → Bool) : ∀ j, hasB (rws (layS 1 s t)) j = (hasB (rws s) j && !hasB (rws t) j) := fun j => by rw [rws_has, rws_has, rws_has, inS_lay]; rfl
theorem hm_both (k : Int) (h0 : k ≠ 0) (h1 : k ≠ 1) (s t : Nat → Bool) : ∀ j, hasB (rws (layS k s t)) j = (hasB (rws s) j && hasB (rws t) j) := fun j => by
  rw [rws_has, rws_has, rws_has, inS_lay]
  unfold layB; rw [if_neg h0, if_neg h1]
theorem of_s (f t : Int) (fr : List Chunk) : Does Try.prog 45 [.int .i64 f, .int .i64 t] fr (fun _ : Option Addr × Nat => True) (fun x => .agg #[.slice x.1 (rws (ofS f t)).length x.2]) (fun x => own x.1 x.2 84 2 (rws (ofS f t)).length (rc (rws (ofS f t))) :: fr) := by rw [← ofR_rws]; exact of_c f t fr
theorem all_s (s : Nat → Bool) (A : Option Addr) (c : Nat) (fr : List Chunk) (hrd : Rds fr A (rc (rws s))) : Does Try.prog 32 [.agg #[.slice A (rws s).length c]] fr (fun _ : Option Addr × Nat => True) (fun x => .slice x.1 (al s 1024).length x.2) (fun x => own x.1 x.2 3 1 (al s 1024).length (ilS (al s 1024)) :: fr) := by rw [← nm_al]; exact all_c _ (rws_ok s) A c fr hrd
theorem slen_s (s : Nat → Bool) (A : Option Addr) (c : Nat) (fr : List Chunk) (hrd : Rds fr A (rc (rws s))) : Does Try.prog 29 [.agg #[.slice A (rws s).length c]] fr (fun _ : Unit => True) (fun _ => .int .i64 (al s 1024).length) (fun _ => fr) := by rw [← len_al]; exact slen_c _ (rws_ok s) A c fr hrd
theorem rrows_s (s : Nat → Bool) (fr : List Chunk) : Does Try.prog 48 [.agg (bs s).toArray] fr (fun _ : Option Addr × Nat => True) (fun x => .slice x.1 (rws s).length x.2) (fun x => own x.1 x.2 81 2 (rws s).length (rc (rws s)) :: fr) := rrows_c s fr
def prK : List CK := [.int .i64, .int .i64]
theorem rcs_typed (r : Rw) : Typed prK (rcs r) := ⟨rfl, rfl, trivial⟩
theorem cmp_pair : Cmp Try.prog 81 prK := ⟨by kernel_rfl, .inl ⟨_, _, Try.underlying81⟩, by kernel_rfl⟩
theorem rcs_same (r : Rw) : eqB (rcs r) (rcs r) = true := (eqB_iff (rcs_typed r) (rcs_typed r)).2 rfl
attribute [local irreducible] Eng.Hold Eng.Z Eng.S Eng.cells Eng.old Eng.own rc rcs at' hasB Sep lastTo push
attribute [local irreducible] cmpR lenN ofR en mg cu ilS rg nm bs pt al rr rws layS ofS
set_option maxHeartbeats 4000000 in
theorem ssetsame_c (s : Nat → Bool) (A : Option Addr) (c : Nat) (fr : List Chunk) (hrd : Rds fr A (rc (rws s))) : Does Try.prog 20 [.agg #[.slice A (rws s).length c], .agg (bs s).toArray] fr (fun _ : Unit => True) (fun _ => .bool true) (fun _ => fr) := by
  intro w hw
  have hal := al_le s 1024
  have hx := (rws_ok s).len
  refine f_enter Try.func20 rfl Try.ntmps20 rfl hw ?_
  repeat' (first
   | ((refine z_isdst 9 ?_; refine o_callx1 Try.func32 rfl rfl rfl (all_s s A c _ (Rds.cons _ (Rds.cons _ hrd))) (by decide) (by decide) fun u _ => ?_))
   | ((refine z_isdst 11 ?_; refine o_callx1 Try.func27 rfl rfl rfl (rall_c s _) (by decide) (by decide) fun v _ => ?_))
   | ((refine z_isdst 12 ?_; refine o_callx0 Try.func31 rfl rfl rfl (ssame_c (al s 1024) _ _ _ _ _ (own_rds 1 rfl) (own_rds 0 rfl) (by omega)) (by decide) (by decide) ?_))
   | ((refine z_isdst 16 ?_; refine o_callr rfl Try.func29 rfl rfl rfl (slen_s s A c _ (Rds.cons _ (Rds.cons _ hrd))) (by decide) ?_))
   | ((refine z_isdst 18 ?_; refine o_callx1 Try.func27 rfl rfl rfl (rall_c s _) (by decide) (by decide) fun v2 _ => ?_))
   | refine z_mono0www ?_
   | ((refine z_isdst 23 ?_; refine o_callx1 Try.func47 rfl rfl rfl (rows_c (rws s) (rws_ok s) A c _ (hrd.sub (List.sublist_append_right [_, _, _, _, _] _))) (by decide) (by decide) fun x _ => ?_))
   | ((refine z_isdst 25 ?_; refine o_callx1 Try.func48 rfl rfl rfl (rrows_s s _) (by decide) (by decide) fun y _ => ?_))
   | refine z_mono0ww ?_
   | (refine s_is ?_; first
   | (refine c_free0 ⟨[9, 11, 12, 18], []⟩ [0, 2, 1, 3, 4, 5, 6, 7, 8, 9, 10, 11, 12, 13] (id := 1) mixed (by kernel_rfl) ?_)
   | (refine c_free0 ⟨[23, 25], []⟩ [0, 2, 1, 3, 4, 5] (id := 3) mixed (by kernel_rfl) ?_)
   | (refine s_isw ?_; first
   | (refine s_isloop ?_; first
   | ((refine c_loop (X := Nat) (fun k => k ≤ (rws s).length) (fun k => [(5, .slice x.1 (rws s).length x.2), (6, .slice y.1 (rws s).length y.2), (7, .int .i64 k)]) (fun _ => own y.1 y.2 81 2 (rws s).length (rc (rws s)) :: own x.1 x.2 81 2 (rws s).length (rc (rws s)) :: fr) (fun k => (rws s).length - k) 0 (Nat.zero_le _) ⟨rfl, rfl, rfl, trivial⟩ (fun w h => ((h.sel 7 [0, 1, 2, 3, 4, 5, 6] (by decide)).mask [true, true, false, false, false, false, false])) (fun k hk => ?_); refine c_own2 0 rfl fun hkc1 hne1 => ?_; refine c_own2 1 rfl fun hkc2 hne2 => ?_; refine hold ?_)))
   | refine c_seq ?_
   | refine c_block ?_
   | refine c_region ?_
   | refine c_skip ?_
   | (refine s_iscond ?_; first
   | (refine c_false rfl (by first | with_reducible rfl | with_reducible assumption | ((with_reducible refine decide_eq_false ?_); first | with_reducible assumption | omega)) ?_))))
   | (refine z_isg0 ?_; first
   | (refine z_want0 rfl rfl (by first | (simp only [Bool.not_eq_false', decide_eq_true_eq]; omega) | (with_reducible assumption) | (rw [decide_eq_false] <;> (first | omega | with_reducible rfl)) | (rw [decide_eq_true] <;> (first | omega | with_reducible rfl)) | (simp; done) | (simp; omega)) ?_))
   | (refine z_isnil ?_; first
   | refine z_list ?_)
   | (refine z_isop ?_; first
   | refine o_boxa (vs := [.slice A (rws s).length c]) rfl rfl (by decide) fun ga => ?_
   | refine o_boxa (vs := bs s) rfl rfl (by decide) fun gb => ?_
   | (refine z_isbin ?_; first
   | (refine z_isb .neq ?_; first
   | refine o_ne rfl rfl (by decide) ?_))
   | (refine z_isload ?_; first
   | (refine z_ldw tabOk rfl rfl ?_; first
   | (refine o_loadwm tabOk rfl rfl rfl (by repeat' (first | exact List.mem_cons_self | apply List.mem_cons_of_mem)) (by first | rfl | exact bs_len _ | exact rcs_len _ | (simp only [bs_len, rcs_len]; done) | rfl) (by decide) ?_)))
   | (refine z_ispick ?_; first
   | (refine o_pick0 rfl (by first | (simp only [Bool.not_eq_false', decide_eq_true_eq]; omega) | (with_reducible assumption) | (rw [decide_eq_false] <;> (first | omega | with_reducible rfl)) | (rw [decide_eq_true] <;> (first | omega | with_reducible rfl)) | (simp; done) | (simp; omega)) rfl (by decide) ?_))
   | (refine z_isbi ?_; first
   | refine o_len tabOk rfl rfl (by decide) ?_)
   | refine o_move rfl (by decide) ?_
   | refine o_assign rfl (by decide) ?_
   | refine o_not rfl (by decide) ?_))
  refine Hold.go ?_
  by_cases hl : k < (rws s).length
  · have he : (!eqB (rcs (at' (rws s) k)) (rcs (at' (rws s) k))) = false := by rw [rcs_same]; rfl
    repeat' (first
     | ((refine z_isdst 39 ?_; refine o_indexsn tabOk (hne2 (by omega)) rfl rfl rfl rfl (by omega) (by omega) (by decide) ?_))
     | ((refine z_isdst 43 ?_; refine o_indexsn tabOk (hne1 (by omega)) rfl rfl rfl rfl (by omega) (by omega) (by decide) ?_))
     | ((refine z_isdst 40 ?_; refine o_loadsw tabOk (own_rds 1 rfl) rfl rfl rfl (es := rcs (at' (rws s) k)) (rcs_len _) (by rw [rcs_len]; decide) (fun j u hu => by rw [Int.toNat_natCast]; exact rc_el (rws s) (by omega) j u hu) (by decide) ?_))
     | ((refine z_isdst 44 ?_; refine o_loadsw tabOk (own_rds 0 rfl) rfl rfl rfl (es := rcs (at' (rws s) k)) (rcs_len _) (by rw [rcs_len]; decide) (fun j u hu => by rw [Int.toNat_natCast]; exact rc_el (rws s) (by omega) j u hu) (by decide) ?_))
     | (refine s_is ?_; first
     | (refine s_isagain ?_; first
     | exact c_again (k + 1) (by omega) (by omega) ⟨rfl, rfl, rfl, trivial⟩ (fun w h => h))
     | (refine s_isw ?_; first
     | refine c_seq ?_
     | refine c_block ?_
     | refine c_region ?_
     | refine c_mixed mixed (by kernel_rfl) ?_
     | refine c_skip ?_
     | (refine s_iscond ?_; first
     | (refine c_true rfl (by first | with_reducible rfl | with_reducible assumption | ((with_reducible refine decide_eq_true ?_); first | with_reducible rfl | with_reducible assumption | omega)) ?_)
     | (refine c_false rfl (by first | with_reducible rfl | with_reducible assumption | ((with_reducible refine decide_eq_false ?_); first | with_reducible assumption | omega)) ?_))))
     | (refine z_isnil ?_; first
     | refine z_list ?_
     | refine z_mixed ?_)
     | (refine z_isop ?_; first
     | (refine z_isbin ?_; first
     | refine o_nea cmp_pair rfl rfl (rcs_typed _) (rcs_typed _) (by decide) ?_
     | (refine z_isb .add ?_; first
     | refine o_add rfl rfl (by omega) (by omega) (by decide) ?_)
     | (refine z_isb .lss ?_; first
     | refine o_lt rfl rfl (by decide) ?_))
     | (refine z_isbi ?_; first
     | refine o_len tabOk rfl rfl (by decide) ?_)
     | refine o_move rfl (by decide) ?_
     | refine o_assign rfl (by decide) ?_))
  · obtain rfl : k = (rws s).length := by omega
    repeat' (first
     | (refine s_is ?_; first
     | (refine s_isret ?_; first
     | exact f_r1 rfl (res_t rfl) () trivial rfl (fun w h => ((h.sel 2 [0, 1] (by decide)).mask [false, false])))
     | (refine s_isw ?_; first
     | refine c_seq ?_
     | refine c_region ?_
     | refine c_ret ?_
     | refine c_exit ?_
     | (refine s_iscond ?_; first
     | (refine c_false rfl (by first | with_reducible rfl | with_reducible assumption | ((with_reducible refine decide_eq_false ?_); first | with_reducible assumption | omega)) ?_))))
     | (refine z_isnil ?_; first
     | refine z_list ?_)
     | (refine z_isop ?_; first
     | (refine z_isbin ?_; first
     | (refine z_isb .lss ?_; first
     | refine o_lt rfl rfl (by decide) ?_))
     | (refine z_isbi ?_; first
     | refine o_len tabOk rfl rfl (by decide) ?_)
     | refine o_move rfl (by decide) ?_
     | refine o_assign rfl (by decide) ?_))
/-- A deed. -/
structure Ds where
  k : Int
  f : Int
  t : Int
def Ds.cs (d : Ds) : List Value := [.int .i64 d.k, .int .i64 d.f, .int .i64 d.t]
theorem ds_len (d : Ds) : d.cs.length = 3 := rfl
theorem ds_one (d : Ds) : d.cs.all (·.oneCell') = true := rfl
theorem ds_k (d : Ds) : d.cs[0]? = some (.int .i64 d.k) := rfl
theorem ds_f (d : Ds) : d.cs[1]? = some (.int .i64 d.f) := rfl
theorem ds_t (d : Ds) : d.cs[2]? = some (.int .i64 d.t) := rfl
theorem ds_at (D : List Ds) {i : Nat} (d : Ds) (h : D[i]? = some d) : ∀ (j : Nat) u, d.cs[j]? = some u → (D.flatMap Ds.cs)[((i : Int)).toNat * 3 + j]? = some u := fun j u hu => by
  have hj : j < 3 := (List.getElem?_eq_some_iff.1 hu).1
  rw [Int.toNat_natCast, flat_get Ds.cs 3 ds_len D i j d h hj]; exact hu
theorem ds_open {W : World} {r : List Value} (h : Is W (.struct [.int .i64, .int .i64, .int .i64]) r) : ∃ d : Ds, r = d.cs ∧ True := by
  obtain ⟨x, y, z, rfl, h0, h1, h2⟩ := h.struct3
  obtain ⟨k, rfl, hk⟩ := h0.int_inv
  obtain ⟨f, rfl, hf⟩ := h1.int_inv
  obtain ⟨t, rfl, ht⟩ := h2.int_inv
  exact ⟨⟨k, f, t⟩, rfl, trivial⟩
/-- What kind of deed. -/
def kd (k : Int) : Int := if k = 0 then 0 else if k = 1 then 1 else 2
def dse (s : Nat → Bool) (d : Ds) : Nat → Bool := layS (kd d.k) s (ofS d.f d.t)
/-- The set of the first n deeds. -/
def msk (D : List Ds) : Nat → Nat → Bool
  | 0 => fun _ => false
  | n + 1 => match D[n]? with
    | some d => dse (msk D n) d
    | none => msk D n
theorem msk_zero (D : List Ds) : msk D 0 = fun _ => false := rfl
theorem msk_succ {D : List Ds} {n : Nat} {d : Ds} (h : D[n]? = some d) : msk D (n + 1) = dse (msk D n) d := by simp only [msk]; rw [h]
def msc (D : List Ds) : Nat → Bool := msk D (min D.length 20)
theorem msc_end {D : List Ds} {i : Nat} (h : i ≤ D.length ∧ i ≤ 20) (h2 : ¬ (i < D.length ∧ i < 20)) : msk D i = msc D := by unfold msc; congr 1; omega
theorem rws_empty : rws (fun _ => false) = [] := by
  refine (rws_eq (R := []) (by unfold Sep; trivial) fun j => ?_).symm
  rw [has_nil]; unfold inS; simp
attribute [local irreducible] Ds.cs msk dse kd
set_option maxHeartbeats 8000000 in
theorem smade_c (D : List Ds) (A0 : Option Addr) (c0 : Nat) (fr : List Chunk) (hrd0 : Rds fr A0 (D.flatMap Ds.cs)) (hx : D.length ≤ 9223372036854775807) :
    Does Try.prog 19 [.slice A0 D.length c0] fr (fun _ : Option Addr × Nat => True) (fun x => .tuple #[.agg #[.slice x.1 (rws (msc D)).length x.2], .agg (bs (msc D)).toArray]) (fun x => own x.1 x.2 84 2 (rws (msc D)).length (rc (rws (msc D))) :: fr) := by
  intro w hw
  have hne0 : 0 < D.length → A0 ≠ none := fun h => hrd0.ne hw (by rw [flat_len Ds.cs 3 ds_len]; omega)
  refine f_enter Try.func19 rfl Try.ntmps19 rfl hw ?_
  repeat' (first
   | ((refine z_isdst 2 ?_; refine o_alloca (e := 47) (vs := [.slice none 0 0]) rfl (by kernel_rfl) (by decide) fun g2 => ?_))
   | ((refine z_isdst 3 ?_; refine o_alloca (e := 49) (vs := bs (fun _ => false)) rfl (by kernel_rfl) (by decide) fun g3 => ?_))
   | ((refine z_isdst 4 ?_; refine o_alloca (e := 47) (vs := [.slice none 0 0]) rfl (by kernel_rfl) (by decide) fun g4 => ?_))
   | ((refine z_isdst 5 ?_; refine o_alloca (e := 49) (vs := bs (fun _ => false)) rfl (by kernel_rfl) (by decide) fun g5 => ?_))
   | (refine s_is ?_; first
   | (refine s_isw ?_; first
   | (refine s_isloop ?_; first
   | ((refine c_loop (X := Option Addr × Nat × Nat) (fun y => y.2.2 ≤ D.length ∧ y.2.2 ≤ 20) (fun y => [(0, .slice A0 D.length c0), (2, .pointer (some ⟨g2, 0, none⟩)), (3, .pointer (some ⟨g3, 0, none⟩)), (4, .pointer (some ⟨g4, 0, none⟩)), (5, .pointer (some ⟨g5, 0, none⟩)), (6, .int .i64 y.2.2)]) (fun y => cells g4 47 [.slice y.1 (rws (msk D y.2.2)).length y.2.1] :: cells g5 49 (bs (msk D y.2.2)) :: own y.1 y.2.1 84 2 (rws (msk D y.2.2)).length (rc (rws (msk D y.2.2))) :: cells g3 49 (bs (fun _ => false)) :: cells g2 47 [.slice none 0 0] :: fr) (fun y => D.length - y.2.2) (none, 0, 0) ⟨Nat.zero_le _, Nat.zero_le _⟩ ⟨rfl, rfl, rfl, rfl, rfl, rfl, trivial⟩ (fun w h => by dsimp only; rw [msk_zero, rws_empty, rc_nil]; exact (h.nil 84 2).sel 5 [2, 1, 0, 3, 4] (by decide)) (fun y hy => ?_); obtain ⟨A, c, i⟩ := y; obtain ⟨hi, hi4⟩ := hy; dsimp only at hi hi4 ⊢; refine hold ?_)))
   | refine c_seq ?_
   | refine c_block ?_
   | refine c_region ?_))
   | (refine z_isnil ?_; first
   | refine z_list ?_)
   | (refine z_isop ?_; first
   | refine o_build0 (t := 49) (v := .agg (bs (fun _ => false)).toArray) (fun _ => by kernel_rfl) (by decide) ?_
   | (refine z_isstore ?_; first
   | (refine z_stw rfl ?_; first
   | ((refine z_sti 0 rfl rfl ?_; refine o_storeb0 rfl tabOk rfl rfl rfl (by first | rfl | exact bs_len _ | exact ds_len _ | (simp only [bs_len, ds_len]; done) | rfl) (by first | rfl | exact bs_one _ | exact ds_one _ | rfl) (by first | rfl | exact bs_len _ | exact ds_len _ | (simp only [bs_len, ds_len]; done) | rfl) ?_))))
   | refine o_assign rfl (by decide) ?_))
  refine Hold.go ?_
  by_cases hlt : i < D.length ∧ i < 20
  · obtain ⟨d, hd⟩ : ∃ d, D[i]? = some d := ⟨D[i], List.getElem?_eq_getElem hlt.1⟩
    have hs := msk_succ hd
    by_cases h0 : d.k = 0
    · have hkd : kd d.k = 0 := by unfold kd; rw [if_pos h0]
      have hb : layS 0 (msk D i) (ofS d.f d.t) = dse (msk D i) d := by unfold dse; rw [hkd]
      have hm := hm_with (msk D i) (ofS d.f d.t)
      rw [hb] at hm
      rw [← h0] at hb
      repeat' (first
       | ((refine z_isdst 24 ?_; refine o_loadsw tabOk (by repeat (first | exact hrd0 | apply Rds.cons)) rfl rfl rfl (es := d.cs) (ds_len _) (by rw [ds_len]; decide) (ds_at D d hd) (by decide) ?_))
       | ((refine z_isdst 40 ?_; refine o_calla Try.func22 rfl rfl rfl (with_c (rws (msk D i)) (rws (ofS d.f d.t)) (rws (dse (msk D i) d)) (rws_ok _) (rws_ok _) (rws_ok _) hm _ _ _ _ _ (own_rds 5 rfl) (own_rds 1 rfl)) (by decide) fun u _ => ?_))
       | ((refine s_sel 6 [5, 0, 1, 2, 3, 4] (by decide) ?_; refine c_free1 ⟨[47], []⟩ [0, 2, 3, 4, 5, 6, 1, 7, 8] (id := 16) mixed (by kernel_rfl) ?_))
       | ((refine z_isdst 47 ?_; refine o_loadwv rfl tabOk rfl rfl rfl List.mem_cons_self (bs_len _) (by decide) ?_))
       | ((refine z_isdst 52 ?_; refine o_fn rfl Try.func46 rfl rfl rfl (rof_p _ _) (by decide) ?_))
       | ((refine z_isdst 53 ?_; refine o_fn rfl Try.func23 rfl rfl rfl (rlay_p _ _ _) (by decide) ?_))
       | refine z_mono0w ?_
       | ((refine z_isdst 7 ?_; refine o_alloca (e := 75) (vs := Ds.cs ⟨0, 0, 0⟩) rfl (by kernel_rfl) (by decide) fun g7 => ?_))
       | ((refine z_isdst 9 ?_; refine o_alloca (e := 47) (vs := [.slice none 0 0]) rfl (by kernel_rfl) (by decide) fun g9 => ?_))
       | (refine s_is ?_; first
       | (refine s_isagain ?_; first
       | (exact c_again (u.1, u.2, i + 1) ⟨by dsimp only; omega, by dsimp only; omega⟩ (by dsimp only; omega) ⟨rfl, rfl, rfl, rfl, rfl, rfl, trivial⟩ (fun w h => by dsimp only; rw [hs]; rw [hb] at h; exact ((h.sel 9 [5, 0, 1, 7, 8, 2, 3, 4, 6] (by decide)).mask [true, true, true, true, true, false, false, false, false]))))
       | (refine s_isw ?_; first
       | refine c_seq ?_
       | refine c_block ?_
       | refine c_region ?_
       | refine c_skip ?_
       | (refine s_iscond ?_; first
       | (refine c_true rfl (by first | with_reducible rfl | with_reducible assumption | ((with_reducible refine decide_eq_true ?_); first | with_reducible rfl | with_reducible assumption | omega)) ?_))))
       | (refine z_isg1 ?_; first
       | (refine z_want1 rfl rfl (by first | with_reducible rfl | with_reducible assumption | ((with_reducible refine decide_eq_true ?_); first | with_reducible rfl | with_reducible assumption | omega)) ?_))
       | (refine z_isnil ?_; first
       | refine z_list ?_)
       | (refine z_isop ?_; first
       | refine o_indexsn tabOk (hne0 (by omega)) rfl rfl rfl rfl (by omega) (by omega) (by decide) ?_
       | (refine z_isbin ?_; first
       | (refine z_isb .add ?_; first
       | refine o_add rfl rfl (by omega) (by omega) (by decide) ?_)
       | (refine z_isb .eql ?_; first
       | refine o_eq rfl rfl (by decide) ?_)
       | (refine z_isb .lss ?_; first
       | refine o_lt rfl rfl (by decide) ?_))
       | (refine z_isload ?_; first
       | (refine z_ld1 tabOk rfl rfl ?_; first
       | refine o_loadm tabOk rfl rfl rfl (by repeat' (first | exact List.mem_cons_self | apply List.mem_cons_of_mem)) (by first | exact ds_k _ | exact ds_f _ | exact ds_t _ | rfl | rfl) (by decide) ?_)
       | (refine z_ldw tabOk rfl rfl ?_; first
       | (refine o_loadwm tabOk rfl rfl rfl (by repeat' (first | exact List.mem_cons_self | apply List.mem_cons_of_mem)) (by first | rfl | exact bs_len _ | exact ds_len _ | (simp only [bs_len, ds_len]; done) | rfl) (by decide) ?_)))
       | (refine z_isstore ?_; first
       | refine o_storebv 0 tabOk rfl rfl rfl rfl rfl (bs_len _) (bs_one _) (by simp only [bs_len]) ?_
       | (refine z_stw rfl ?_; first
       | ((refine z_sti 0 rfl rfl ?_; refine o_storeb0 rfl tabOk rfl rfl rfl (by first | rfl | exact bs_len _ | exact ds_len _ | (simp only [bs_len, ds_len]; done) | rfl) (by first | rfl | exact bs_one _ | exact ds_one _ | rfl) (by first | rfl | exact bs_len _ | exact ds_len _ | (simp only [bs_len, ds_len]; done) | rfl) ?_))
       | ((refine z_sti 4 rfl rfl ?_; refine o_storeb4 rfl tabOk rfl rfl rfl (by first | rfl | exact bs_len _ | exact ds_len _ | (simp only [bs_len, ds_len]; done) | rfl) (by first | rfl | exact bs_one _ | exact ds_one _ | rfl) (by first | rfl | exact bs_len _ | exact ds_len _ | (simp only [bs_len, ds_len]; done) | rfl) ?_))))
       | (refine z_iscall ?_; first
       | ((refine z_iscallf 45 ?_; refine o_calla Try.func45 rfl rfl rfl (of_s d.f d.t _) (by decide) fun x _ => ?_)))
       | (refine z_ispick ?_; first
       | (refine o_pick1 rfl (by first | with_reducible rfl | with_reducible assumption | ((with_reducible refine decide_eq_true ?_); first | with_reducible rfl | with_reducible assumption | omega)) rfl (by decide) ?_))
       | (refine z_isbi ?_; first
       | refine o_len tabOk rfl rfl (by decide) ?_)
       | refine o_move rfl (by decide) ?_
       | refine o_assign rfl (by decide) ?_
       | refine o_field0 tabOk rfl rfl rfl rfl rfl (by decide) ?_))
    · by_cases h1 : d.k = 1
      · have hkd : kd d.k = 1 := by unfold kd; rw [if_neg h0, if_pos h1]
        have hb : layS 1 (msk D i) (ofS d.f d.t) = dse (msk D i) d := by unfold dse; rw [hkd]
        have hm := hm_without (msk D i) (ofS d.f d.t)
        rw [hb] at hm
        rw [← h1] at hb
        repeat' (first
         | ((refine z_isdst 24 ?_; refine o_loadsw tabOk (by repeat (first | exact hrd0 | apply Rds.cons)) rfl rfl rfl (es := d.cs) (ds_len _) (by rw [ds_len]; decide) (ds_at D d hd) (by decide) ?_))
         | ((refine z_isdst 45 ?_; refine o_calla Try.func24 rfl rfl rfl (without_c (rws (msk D i)) (rws (ofS d.f d.t)) (rws (dse (msk D i) d)) (rws_ok _) (rws_ok _) (rws_ok _) hm _ _ _ _ _ (own_rds 5 rfl) (own_rds 1 rfl)) (by decide) fun u _ => ?_))
         | ((refine s_sel 6 [5, 0, 1, 2, 3, 4] (by decide) ?_; refine c_free1 ⟨[47], []⟩ [0, 2, 3, 4, 5, 6, 1, 7, 8] (id := 16) mixed (by kernel_rfl) ?_))
         | ((refine z_isdst 47 ?_; refine o_loadwv rfl tabOk rfl rfl rfl List.mem_cons_self (bs_len _) (by decide) ?_))
         | ((refine z_isdst 52 ?_; refine o_fn rfl Try.func46 rfl rfl rfl (rof_p _ _) (by decide) ?_))
         | ((refine z_isdst 53 ?_; refine o_fn rfl Try.func23 rfl rfl rfl (rlay_p _ _ _) (by decide) ?_))
         | refine z_mono0w ?_
         | ((refine z_isdst 7 ?_; refine o_alloca (e := 75) (vs := Ds.cs ⟨0, 0, 0⟩) rfl (by kernel_rfl) (by decide) fun g7 => ?_))
         | ((refine z_isdst 9 ?_; refine o_alloca (e := 47) (vs := [.slice none 0 0]) rfl (by kernel_rfl) (by decide) fun g9 => ?_))
         | (refine s_is ?_; first
         | (refine s_isagain ?_; first
         | (exact c_again (u.1, u.2, i + 1) ⟨by dsimp only; omega, by dsimp only; omega⟩ (by dsimp only; omega) ⟨rfl, rfl, rfl, rfl, rfl, rfl, trivial⟩ (fun w h => by dsimp only; rw [hs]; rw [hb] at h; exact ((h.sel 9 [5, 0, 1, 7, 8, 2, 3, 4, 6] (by decide)).mask [true, true, true, true, true, false, false, false, false]))))
         | (refine s_isw ?_; first
         | refine c_seq ?_
         | refine c_block ?_
         | refine c_region ?_
         | refine c_skip ?_
         | (refine s_iscond ?_; first
         | (refine c_true rfl (by first | with_reducible rfl | with_reducible assumption | ((with_reducible refine decide_eq_true ?_); first | with_reducible rfl | with_reducible assumption | omega)) ?_)
         | (refine c_false rfl (by first | with_reducible rfl | with_reducible assumption | ((with_reducible refine decide_eq_false ?_); first | with_reducible assumption | omega)) ?_))))
         | (refine z_isg1 ?_; first
         | (refine z_want1 rfl rfl (by first | with_reducible rfl | with_reducible assumption | ((with_reducible refine decide_eq_true ?_); first | with_reducible rfl | with_reducible assumption | omega)) ?_))
         | (refine z_isnil ?_; first
         | refine z_list ?_)
         | (refine z_isop ?_; first
         | refine o_indexsn tabOk (hne0 (by omega)) rfl rfl rfl rfl (by omega) (by omega) (by decide) ?_
         | (refine z_isbin ?_; first
         | (refine z_isb .add ?_; first
         | refine o_add rfl rfl (by omega) (by omega) (by decide) ?_)
         | (refine z_isb .eql ?_; first
         | refine o_eq rfl rfl (by decide) ?_)
         | (refine z_isb .lss ?_; first
         | refine o_lt rfl rfl (by decide) ?_))
         | (refine z_isload ?_; first
         | (refine z_ld1 tabOk rfl rfl ?_; first
         | refine o_loadm tabOk rfl rfl rfl (by repeat' (first | exact List.mem_cons_self | apply List.mem_cons_of_mem)) (by first | exact ds_k _ | exact ds_f _ | exact ds_t _ | rfl | rfl) (by decide) ?_)
         | (refine z_ldw tabOk rfl rfl ?_; first
         | (refine o_loadwm tabOk rfl rfl rfl (by repeat' (first | exact List.mem_cons_self | apply List.mem_cons_of_mem)) (by first | rfl | exact bs_len _ | exact ds_len _ | (simp only [bs_len, ds_len]; done) | rfl) (by decide) ?_)))
         | (refine z_isstore ?_; first
         | refine o_storebv 0 tabOk rfl rfl rfl rfl rfl (bs_len _) (bs_one _) (by simp only [bs_len]) ?_
         | (refine z_stw rfl ?_; first
         | ((refine z_sti 0 rfl rfl ?_; refine o_storeb0 rfl tabOk rfl rfl rfl (by first | rfl | exact bs_len _ | exact ds_len _ | (simp only [bs_len, ds_len]; done) | rfl) (by first | rfl | exact bs_one _ | exact ds_one _ | rfl) (by first | rfl | exact bs_len _ | exact ds_len _ | (simp only [bs_len, ds_len]; done) | rfl) ?_))
         | ((refine z_sti 4 rfl rfl ?_; refine o_storeb4 rfl tabOk rfl rfl rfl (by first | rfl | exact bs_len _ | exact ds_len _ | (simp only [bs_len, ds_len]; done) | rfl) (by first | rfl | exact bs_one _ | exact ds_one _ | rfl) (by first | rfl | exact bs_len _ | exact ds_len _ | (simp only [bs_len, ds_len]; done) | rfl) ?_))))
         | (refine z_iscall ?_; first
         | ((refine z_iscallf 45 ?_; refine o_calla Try.func45 rfl rfl rfl (of_s d.f d.t _) (by decide) fun x _ => ?_)))
         | (refine z_ispick ?_; first
         | (refine o_pick1 rfl (by first | with_reducible rfl | with_reducible assumption | ((with_reducible refine decide_eq_true ?_); first | with_reducible rfl | with_reducible assumption | omega)) rfl (by decide) ?_))
         | (refine z_isbi ?_; first
         | refine o_len tabOk rfl rfl (by decide) ?_)
         | refine o_move rfl (by decide) ?_
         | refine o_assign rfl (by decide) ?_
         | refine o_field0 tabOk rfl rfl rfl rfl rfl (by decide) ?_))
      · have hkd : kd d.k = 2 := by unfold kd; rw [if_neg h0, if_neg h1]
        have hb : layS 2 (msk D i) (ofS d.f d.t) = dse (msk D i) d := by unfold dse; rw [hkd]
        have hm := hm_both 2 (by decide) (by decide) (msk D i) (ofS d.f d.t)
        rw [hb] at hm
        repeat' (first
         | ((refine z_isdst 24 ?_; refine o_loadsw tabOk (by repeat (first | exact hrd0 | apply Rds.cons)) rfl rfl rfl (es := d.cs) (ds_len _) (by rw [ds_len]; decide) (ds_at D d hd) (by decide) ?_))
         | ((refine z_isdst 35 ?_; refine o_calla Try.func25 rfl rfl rfl (both_c (rws (msk D i)) (rws (ofS d.f d.t)) (rws (dse (msk D i) d)) (rws_ok _) (rws_ok _) (rws_ok _) hm _ _ _ _ _ (own_rds 5 rfl) (own_rds 1 rfl)) (by decide) fun u _ => ?_))
         | ((refine s_sel 6 [5, 0, 1, 2, 3, 4] (by decide) ?_; refine c_free1 ⟨[47], []⟩ [0, 2, 3, 4, 5, 6, 1, 7, 8] (id := 16) mixed (by kernel_rfl) ?_))
         | ((refine z_isdst 47 ?_; refine o_loadwv rfl tabOk rfl rfl rfl List.mem_cons_self (bs_len _) (by decide) ?_))
         | ((refine z_isdst 52 ?_; refine o_fn rfl Try.func46 rfl rfl rfl (rof_p _ _) (by decide) ?_))
         | ((refine z_isdst 53 ?_; refine o_fn rfl Try.func23 rfl rfl rfl (rlay_p _ _ _) (by decide) ?_))
         | refine z_mono0w ?_
         | ((refine z_isdst 7 ?_; refine o_alloca (e := 75) (vs := Ds.cs ⟨0, 0, 0⟩) rfl (by kernel_rfl) (by decide) fun g7 => ?_))
         | ((refine z_isdst 9 ?_; refine o_alloca (e := 47) (vs := [.slice none 0 0]) rfl (by kernel_rfl) (by decide) fun g9 => ?_))
         | (refine s_is ?_; first
         | (refine s_isagain ?_; first
         | (exact c_again (u.1, u.2, i + 1) ⟨by dsimp only; omega, by dsimp only; omega⟩ (by dsimp only; omega) ⟨rfl, rfl, rfl, rfl, rfl, rfl, trivial⟩ (fun w h => by dsimp only; rw [hs]; rw [hb] at h; exact ((h.sel 9 [5, 0, 1, 7, 8, 2, 3, 4, 6] (by decide)).mask [true, true, true, true, true, false, false, false, false]))))
         | (refine s_isw ?_; first
         | refine c_seq ?_
         | refine c_block ?_
         | refine c_region ?_
         | refine c_skip ?_
         | (refine s_iscond ?_; first
         | (refine c_true rfl (by first | with_reducible rfl | with_reducible assumption | ((with_reducible refine decide_eq_true ?_); first | with_reducible rfl | with_reducible assumption | omega)) ?_)
         | (refine c_false rfl (by first | with_reducible rfl | with_reducible assumption | ((with_reducible refine decide_eq_false ?_); first | with_reducible assumption | omega)) ?_))))
         | (refine z_isg1 ?_; first
         | (refine z_want1 rfl rfl (by first | with_reducible rfl | with_reducible assumption | ((with_reducible refine decide_eq_true ?_); first | with_reducible rfl | with_reducible assumption | omega)) ?_))
         | (refine z_isnil ?_; first
         | refine z_list ?_)
         | (refine z_isop ?_; first
         | refine o_indexsn tabOk (hne0 (by omega)) rfl rfl rfl rfl (by omega) (by omega) (by decide) ?_
         | (refine z_isbin ?_; first
         | (refine z_isb .add ?_; first
         | refine o_add rfl rfl (by omega) (by omega) (by decide) ?_)
         | (refine z_isb .eql ?_; first
         | refine o_eq rfl rfl (by decide) ?_)
         | (refine z_isb .lss ?_; first
         | refine o_lt rfl rfl (by decide) ?_))
         | (refine z_isload ?_; first
         | (refine z_ld1 tabOk rfl rfl ?_; first
         | refine o_loadm tabOk rfl rfl rfl (by repeat' (first | exact List.mem_cons_self | apply List.mem_cons_of_mem)) (by first | exact ds_k _ | exact ds_f _ | exact ds_t _ | rfl | rfl) (by decide) ?_)
         | (refine z_ldw tabOk rfl rfl ?_; first
         | (refine o_loadwm tabOk rfl rfl rfl (by repeat' (first | exact List.mem_cons_self | apply List.mem_cons_of_mem)) (by first | rfl | exact bs_len _ | exact ds_len _ | (simp only [bs_len, ds_len]; done) | rfl) (by decide) ?_)))
         | (refine z_isstore ?_; first
         | refine o_storebv 0 tabOk rfl rfl rfl rfl rfl (bs_len _) (bs_one _) (by simp only [bs_len]) ?_
         | (refine z_stw rfl ?_; first
         | ((refine z_sti 0 rfl rfl ?_; refine o_storeb0 rfl tabOk rfl rfl rfl (by first | rfl | exact bs_len _ | exact ds_len _ | (simp only [bs_len, ds_len]; done) | rfl) (by first | rfl | exact bs_one _ | exact ds_one _ | rfl) (by first | rfl | exact bs_len _ | exact ds_len _ | (simp only [bs_len, ds_len]; done) | rfl) ?_))
         | ((refine z_sti 4 rfl rfl ?_; refine o_storeb4 rfl tabOk rfl rfl rfl (by first | rfl | exact bs_len _ | exact ds_len _ | (simp only [bs_len, ds_len]; done) | rfl) (by first | rfl | exact bs_one _ | exact ds_one _ | rfl) (by first | rfl | exact bs_len _ | exact ds_len _ | (simp only [bs_len, ds_len]; done) | rfl) ?_))))
         | (refine z_iscall ?_; first
         | ((refine z_iscallf 45 ?_; refine o_calla Try.func45 rfl rfl rfl (of_s d.f d.t _) (by decide) fun x _ => ?_)))
         | (refine z_ispick ?_; first
         | (refine o_pick1 rfl (by first | with_reducible rfl | with_reducible assumption | ((with_reducible refine decide_eq_true ?_); first | with_reducible rfl | with_reducible assumption | omega)) rfl (by decide) ?_))
         | (refine z_isbi ?_; first
         | refine o_len tabOk rfl rfl (by decide) ?_)
         | refine o_move rfl (by decide) ?_
         | refine o_assign rfl (by decide) ?_
         | refine o_field0 tabOk rfl rfl rfl rfl rfl (by decide) ?_))
  · have hm := msc_end ⟨hi, hi4⟩ hlt
    rw [hm]
    by_cases hlt0 : i < D.length
    · skip
      repeat' (first
       | ((refine s_sel 5 [4, 3, 0, 1, 2] (by decide) ?_; refine c_free2 ⟨[], []⟩ [0, 1, 2, 3] (id := 17) mixed (by kernel_rfl) ?_))
       | refine z_mono0ww ?_
       | (refine s_is ?_; first
       | (refine s_isret ?_; first
       | exact f_r2 rfl (res_c tabOk rfl rfl rfl 0 rfl rfl) (res_c tabOk rfl rfl rfl 1 rfl (bs_len _)) (A, c) trivial rfl (fun w h => ((h.sel 5 [4, 0, 1, 2, 3] (by decide)).mask [true, false, false, false, false])))
       | (refine s_isw ?_; first
       | refine c_seq ?_
       | refine c_region ?_
       | refine c_ret ?_
       | refine c_exit ?_
       | (refine s_iscond ?_; first
       | (refine c_false rfl (by first | with_reducible rfl | with_reducible assumption | ((with_reducible refine decide_eq_false ?_); first | with_reducible assumption | omega)) ?_))))
       | (refine z_isg1 ?_; first
       | (refine z_want1 rfl rfl (by first | with_reducible rfl | with_reducible assumption | ((with_reducible refine decide_eq_true ?_); first | with_reducible rfl | with_reducible assumption | omega)) ?_))
       | (refine z_isnil ?_; first
       | refine z_list ?_)
       | (refine z_isop ?_; first
       | (refine z_isbin ?_; first
       | (refine z_isb .lss ?_; first
       | refine o_lt rfl rfl (by decide) ?_))
       | (refine z_isload ?_; first
       | (refine z_ldw tabOk rfl rfl ?_; first
       | (refine o_loadwm tabOk rfl rfl rfl (by repeat' (first | exact List.mem_cons_self | apply List.mem_cons_of_mem)) (by first | rfl | exact bs_len _ | exact ds_len _ | (simp only [bs_len, ds_len]; done) | rfl) (by decide) ?_)))
       | (refine z_isstore ?_; first
       | refine o_storebv 0 tabOk rfl rfl rfl rfl rfl rfl rfl rfl ?_
       | refine o_storebv 1 tabOk rfl rfl rfl rfl rfl (bs_len _) (bs_one _) (by simp only [bs_len]) ?_)
       | (refine z_ispick ?_; first
       | (refine o_pick1 rfl (by first | with_reducible rfl | with_reducible assumption | ((with_reducible refine decide_eq_true ?_); first | with_reducible rfl | with_reducible assumption | omega)) rfl (by decide) ?_))
       | (refine z_isbi ?_; first
       | refine o_len tabOk rfl rfl (by decide) ?_)
       | refine o_move rfl (by decide) ?_))
    · skip
      repeat' (first
       | ((refine s_sel 5 [4, 3, 0, 1, 2] (by decide) ?_; refine c_free2 ⟨[], []⟩ [0, 1, 2, 3] (id := 17) mixed (by kernel_rfl) ?_))
       | refine z_mono0ww ?_
       | (refine s_is ?_; first
       | (refine s_isret ?_; first
       | exact f_r2 rfl (res_c tabOk rfl rfl rfl 0 rfl rfl) (res_c tabOk rfl rfl rfl 1 rfl (bs_len _)) (A, c) trivial rfl (fun w h => ((h.sel 5 [4, 0, 1, 2, 3] (by decide)).mask [true, false, false, false, false])))
       | (refine s_isw ?_; first
       | refine c_seq ?_
       | refine c_region ?_
       | refine c_ret ?_
       | refine c_exit ?_
       | (refine s_iscond ?_; first
       | (refine c_false rfl (by first | with_reducible rfl | with_reducible assumption | ((with_reducible refine decide_eq_false ?_); first | with_reducible assumption | omega)) ?_))))
       | (refine z_isg1 ?_; first
       | (refine z_skip1 (by decide) rfl rfl (by first | with_reducible rfl | with_reducible assumption | ((with_reducible refine decide_eq_false ?_); first | with_reducible assumption | omega)) ?_))
       | (refine z_isnil ?_; first
       | refine z_list ?_)
       | (refine z_isop ?_; first
       | (refine z_isbin ?_; first
       | (refine z_isb .lss ?_; first
       | refine o_lt rfl rfl (by decide) ?_))
       | (refine z_isload ?_; first
       | (refine z_ldw tabOk rfl rfl ?_; first
       | (refine o_loadwm tabOk rfl rfl rfl (by repeat' (first | exact List.mem_cons_self | apply List.mem_cons_of_mem)) (by first | rfl | exact bs_len _ | exact ds_len _ | (simp only [bs_len, ds_len]; done) | rfl) (by decide) ?_)))
       | (refine z_isstore ?_; first
       | refine o_storebv 0 tabOk rfl rfl rfl rfl rfl rfl rfl rfl ?_
       | refine o_storebv 1 tabOk rfl rfl rfl rfl rfl (bs_len _) (bs_one _) (by simp only [bs_len]) ?_)
       | (refine z_ispick ?_; first
       | (refine o_pick0 rfl (by first | with_reducible rfl | with_reducible assumption | ((with_reducible refine decide_eq_false ?_); first | with_reducible assumption | omega)) rfl (by decide) ?_))
       | (refine z_isbi ?_; first
       | refine o_len tabOk rfl rfl (by decide) ?_)
       | refine o_move rfl (by decide) ?_))
end Go.Proofs.Ytjjhlkjnjbagfaa
