/-
Caps: the document's Cut.
-/
import Derived.Test.YtfegdehgnhomnaaCd3
import Derived.Test.YtfegdehgnhomnaaCa8
namespace Go.Proofs.Ytfegdehgnhomnaa
set_option linter.unusedVariables false
set_option linter.unusedSimpArgs false
open Eng
/-- Who is cut. -/
def dC (T : Tq) (a : Int) : Nat → Bool := fun i => decide ((i : Int) = a) || undF T a 64 i
theorem dC_self {T : Tq} {a : Int} {n : Nat} (e : (n : Int) = a) : dC T a n = true := by unfold dC; rw [decide_eq_true e]; rfl
theorem dC_und {T : Tq} {a : Int} {n : Nat} (hu : undF T a 64 n = true) : dC T a n = true := by unfold dC; rw [hu]; simp
theorem dC_no {T : Tq} {a : Int} {n : Nat} (e : (n : Int) ≠ a) (hu : undF T a 64 n = false) : dC T a n = false := by unfold dC; rw [hu, decide_eq_false e]; rfl
def cutN (S : Nat → Bool) (x : Cq) : Cq := { x with s := layS 1 x.s S }
/-- The first k of a list are cut; how many had some. -/
def cl (S : Nat → Bool) (T : Tq) (L : List Int) : Nat → Tq
  | 0 => T
  | k + 1 => upd (cl S T L k) (L.getD k 0).toNat (cutN S (cl S T L k (L.getD k 0).toNat))
def cn (S : Nat → Bool) (T : Tq) (L : List Int) : Nat → Nat
  | 0 => 0
  | k + 1 => cn S T L k + cutC S (cl S T L k (L.getD k 0).toNat)
theorem cl_zero (S : Nat → Bool) (T : Tq) (L : List Int) : cl S T L 0 = T := rfl
theorem cl_succ (S : Nat → Bool) (T : Tq) (L : List Int) (k : Nat) : upd (cl S T L k) (L.getD k 0).toNat (cutN S (cl S T L k (L.getD k 0).toNat)) = cl S T L (k + 1) := rfl
theorem cn_zero (S : Nat → Bool) (T : Tq) (L : List Int) : cn S T L 0 = 0 := rfl
theorem cn_0 {S : Nat → Bool} {T : Tq} {L : List Int} {k : Nat} (h : (al (layS 2 (cl S T L k (L.getD k 0).toNat).s S) 1024).length = 0) : cn S T L (k + 1) = cn S T L k := by
  show cn S T L k + cutC S _ = _
  rw [cutC_0 rfl h]; rfl
theorem cn_1 {S : Nat → Bool} {T : Tq} {L : List Int} {k : Nat} (h : (al (layS 2 (cl S T L k (L.getD k 0).toNat).s S) 1024).length ≠ 0) : cn S T L (k + 1) = cn S T L k + 1 := by
  show cn S T L k + cutC S _ = _
  rw [cutC_1 rfl h]
theorem cn_le (S : Nat → Bool) (T : Tq) (L : List Int) : ∀ k, cn S T L k ≤ k
  | 0 => Nat.le_refl _
  | k + 1 => by
    have := cn_le S T L k
    show cn S T L k + cutC S _ ≤ _
    unfold cutC
    split <;> omega
/-- The first k of a list that have nothing left are emptied. -/
def ze (T : Tq) (L : List Int) : Nat → Tq
  | 0 => T
  | k + 1 => if 0 ≤ (ze T L k (L.getD k 0).toNat).p ∧ (al (ze T L k (L.getD k 0).toNat).s 1024).length = 0 then upd (ze T L k) (L.getD k 0).toNat Cq.zero else ze T L k
theorem ze_zero (T : Tq) (L : List Int) : ze T L 0 = T := rfl
theorem ze_yes {T : Tq} {L : List Int} {k : Nat} (h : 0 ≤ (ze T L k (L.getD k 0).toNat).p) (h2 : (al (ze T L k (L.getD k 0).toNat).s 1024).length = 0) : upd (ze T L k) (L.getD k 0).toNat Cq.zero = ze T L (k + 1) := by
  show _ = (if _ then _ else _)
  rw [if_pos ⟨h, h2⟩]
theorem ze_no {T : Tq} {L : List Int} {k : Nat} (h : ¬ (0 ≤ (ze T L k (L.getD k 0).toNat).p ∧ (al (ze T L k (L.getD k 0).toNat).s 1024).length = 0)) : ze T L (k + 1) = ze T L k := by
  show (if _ then _ else _) = _
  rw [if_neg h]
theorem dcs_sat (x : Cq) : ∀ (j : Nat) u, (bs x.s)[j]? = some u → (dcs x)[0 + 2 + j]? = some u := fun j u hu => (dcs_s x j).trans hu
theorem dcs_cut (S : Nat → Bool) (x : Cq) : (dcs x).take (0 + 2) ++ bs (layS 1 x.s S) ++ (dcs x).drop (0 + 2 + (bs (layS 1 x.s S)).length) = dcs (cutN S x) := by
  rw [List.drop_eq_nil_of_le (by rw [dcs_len, bs_len]; omega), List.append_nil]
  unfold dcs cutN
  rw [show 0 + 2 = 1 + 1 from rfl, List.take_succ_cons, List.take_succ_cons, List.take_zero]
  exact congrArg (fun z => Value.int .u64 x.g :: Value.int .i64 x.p :: z) (List.nil_append _)
theorem cutN_sat (S : Nat → Bool) (x : Cq) : ∀ (j : Nat) u, (bs (layS 1 x.s S))[j]? = some u → (dcs (cutN S x))[0 + 2 + j]? = some u := fun j u hu => (dcs_s _ j).trans hu
attribute [local irreducible] Eng.Hold Eng.Z Eng.S Eng.cells Eng.old Eng.own rc rws tq tqn Cq.cs emp dcs dnn dt bs layS al undF isN dl
attribute [local irreducible] ofS dR zl ilS dC cl cn ze cutN cutC
set_option maxHeartbeats 4000000 in
theorem dcut_c (T : Tq) (l a : Int) (S : Nat → Bool) (b nb : Nat) (fr : List Chunk) (hT : Nm T) (L : List Int) (hL : al (dC T a) 64 = L) (T2 : Tq) (hT2 : cl S T L L.length = T2) : Does Try.prog 30 [.pointer (some ⟨b, 0, none⟩), .int .i64 a, .agg (bs S).toArray] (cells b 43 (dt nb l) :: cells nb 40 (dnn T) :: fr) (fun _ : Unit => True) (fun _ => .int .i64 (cn S T L L.length)) (fun _ => cells b 43 (dt nb l) :: cells nb 40 (dnn (ze T2 L L.length)) :: fr) := by
  intro w hw
  refine f_enter Try.func30 rfl Try.ntmps30 rfl hw ?_
  repeat' (first
   | ((refine z_isdst 5 ?_; refine o_boxa (vs := bs S) rfl rfl (by decide) fun g5 => ?_))
   | (refine s_is ?_; first
   | (refine s_isw ?_; first
   | (refine s_isloop ?_; first
   | ((refine c_loop (X := Option Addr × Nat × Nat) (fun y => y.2.2 ≤ 64) (fun y => [(0, .pointer (some ⟨b, 0, none⟩)), (1, .int .i64 a), (5, .pointer (some ⟨g5, 0, none⟩)), (7, .slice y.1 (al (dC T a) y.2.2).length y.2.1), (8, .int .i64 y.2.2)]) (fun y => own y.1 y.2.1 3 1 (al (dC T a) y.2.2).length (ilS (al (dC T a) y.2.2)) :: cells g5 36 (bs S) :: cells b 43 (dt nb l) :: cells nb 40 (dnn T) :: fr) (fun y => 64 - y.2.2) (none, 0, 0) (Nat.zero_le _) ⟨rfl, rfl, rfl, (by dsimp only; rw [al_zero]; rfl), rfl, trivial⟩ (fun w h => by dsimp only; rw [al_zero, ilS_nil]; exact h.nil 3 1) (fun y hi => ?_); obtain ⟨B, e, n⟩ := y; dsimp only at hi ⊢; refine hold ?_)))
   | refine c_seq ?_
   | refine c_block ?_
   | refine c_region ?_))
   | (refine z_isnil ?_; first
   | refine z_list ?_)
   | (refine z_isop ?_; first
   | refine o_assign rfl (by decide) ?_))
  refine Hold.go ?_
  have hl := al_le (dC T a) n
  by_cases h7 : n < 64
  · by_cases he : (n : Int) = a
    · have h1 := al_yes (dC_self (T := T) he)
      repeat' (first
       | (refine s_is ?_; first
       | (refine s_isagain ?_; first
       | (exact c_again (A', c', n + 1) (by dsimp only; omega) (by dsimp only; omega) ⟨rfl, rfl, rfl, (by dsimp only; rw [h1, List.length_append]; rfl), rfl, trivial⟩ (fun w h => by dsimp only; rw [h1, ilS_one, List.length_append]; exact ((h.sel 5 [0, 2, 3, 4, 1] (by decide)).mask [true, true, true, true, false]))))
       | (refine s_isw ?_; first
       | refine c_seq ?_
       | refine c_block ?_
       | refine c_region ?_
       | refine c_skip ?_
       | (refine s_iscond ?_; first
       | (refine c_true rfl (by first | with_reducible rfl | with_reducible assumption | ((with_reducible refine decide_eq_true ?_); first | with_reducible rfl | with_reducible assumption | omega)) ?_))))
       | (refine z_isg0 ?_; first
       | (refine z_skip0 (by decide) rfl rfl (by first | with_reducible rfl | with_reducible assumption | ((with_reducible refine decide_eq_true ?_); first | with_reducible rfl | with_reducible assumption | omega)) ?_))
       | (refine z_isnil ?_; first
       | refine z_list ?_)
       | (refine z_isop ?_; first
       | (refine z_isbin ?_; first
       | (refine z_isb .add ?_; first
       | refine o_add rfl rfl (by omega) (by omega) (by decide) ?_)
       | (refine z_isb .eql ?_; first
       | refine o_eq rfl rfl (by decide) ?_)
       | (refine z_isb .lss ?_; first
       | refine o_lt rfl rfl (by decide) ?_))
       | (refine z_ismakes ?_; first
       | refine o_make1 rfl tabOk zeroOk rfl rfl rfl rfl rfl (by decide) fun g => ?_)
       | (refine z_ispick ?_; first
       | (refine o_pick1 rfl (by first | with_reducible rfl | with_reducible assumption | ((with_reducible refine decide_eq_true ?_); first | with_reducible rfl | with_reducible assumption | omega)) rfl (by decide) ?_))
       | (refine z_isbi ?_; first
       | (refine z_front rfl 1 rfl ?_; refine o_append rfl tabOk zeroOk rfl rfl rfl rfl rfl rfl (by first | exact own_rds 0 rfl | exact own_rds 1 rfl | exact own_rds 2 rfl | assumption) (by first | rfl | rfl | (simp; done)) (by first | rfl | rfl | (simp; done)) (by omega) (by omega) (by decide) fun A' c' => ?_))
       | refine o_move rfl (by decide) ?_
       | refine o_assign rfl (by decide) ?_))
    · cases hu : undF T a 64 n with
      | true =>
        have h1 := al_yes (dC_und hu)
        repeat' (first
         | ((refine z_isdst 24 ?_; refine o_callr rfl Try.func44 rfl rfl rfl (dunder_v T l a n b nb _ hu _ (cells_rds 2 rfl) (cells_rds 3 rfl) hT h7) (by decide) ?_))
         | (refine s_is ?_; first
         | (refine s_isagain ?_; first
         | (exact c_again (A', c', n + 1) (by dsimp only; omega) (by dsimp only; omega) ⟨rfl, rfl, rfl, (by dsimp only; rw [h1, List.length_append]; rfl), rfl, trivial⟩ (fun w h => by dsimp only; rw [h1, ilS_one, List.length_append]; exact ((h.sel 5 [0, 2, 3, 4, 1] (by decide)).mask [true, true, true, true, false]))))
         | (refine s_isw ?_; first
         | refine c_seq ?_
         | refine c_block ?_
         | refine c_region ?_
         | refine c_skip ?_
         | (refine s_iscond ?_; first
         | (refine c_true rfl (by first | with_reducible rfl | with_reducible assumption | ((with_reducible refine decide_eq_true ?_); first | with_reducible rfl | with_reducible assumption | omega)) ?_))))
         | (refine z_isg0 ?_; first
         | (refine z_want0 rfl rfl (by first | with_reducible rfl | with_reducible assumption | ((with_reducible refine decide_eq_false ?_); first | with_reducible assumption | omega)) ?_))
         | (refine z_isnil ?_; first
         | refine z_list ?_)
         | (refine z_isop ?_; first
         | (refine z_isbin ?_; first
         | (refine z_isb .add ?_; first
         | refine o_add rfl rfl (by omega) (by omega) (by decide) ?_)
         | (refine z_isb .eql ?_; first
         | refine o_eq rfl rfl (by decide) ?_)
         | (refine z_isb .lss ?_; first
         | refine o_lt rfl rfl (by decide) ?_))
         | (refine z_ismakes ?_; first
         | refine o_make1 rfl tabOk zeroOk rfl rfl rfl rfl rfl (by decide) fun g => ?_)
         | (refine z_ispick ?_; first
         | (refine o_pick0 rfl (by first | with_reducible rfl | with_reducible assumption | ((with_reducible refine decide_eq_false ?_); first | with_reducible assumption | omega)) rfl (by decide) ?_))
         | (refine z_isbi ?_; first
         | (refine z_front rfl 1 rfl ?_; refine o_append rfl tabOk zeroOk rfl rfl rfl rfl rfl rfl (by first | exact own_rds 0 rfl | exact own_rds 1 rfl | exact own_rds 2 rfl | assumption) (by first | rfl | rfl | (simp; done)) (by first | rfl | rfl | (simp; done)) (by omega) (by omega) (by decide) fun A' c' => ?_))
         | refine o_move rfl (by decide) ?_
         | refine o_assign rfl (by decide) ?_))
      | false =>
        have h1 := al_no (dC_no he hu)
        repeat' (first
         | ((refine z_isdst 24 ?_; refine o_callr rfl Try.func44 rfl rfl rfl (dunder_v T l a n b nb _ hu _ (cells_rds 2 rfl) (cells_rds 3 rfl) hT h7) (by decide) ?_))
         | (refine s_is ?_; first
         | (refine s_isagain ?_; first
         | (exact c_again (B, e, n + 1) (by dsimp only; omega) (by dsimp only; omega) ⟨rfl, rfl, rfl, (by dsimp only; rw [h1]; rfl), rfl, trivial⟩ (fun w h => by dsimp only; rw [h1]; exact h)))
         | (refine s_isw ?_; first
         | refine c_seq ?_
         | refine c_block ?_
         | refine c_region ?_
         | refine c_skip ?_
         | (refine s_iscond ?_; first
         | (refine c_true rfl (by first | with_reducible rfl | with_reducible assumption | ((with_reducible refine decide_eq_true ?_); first | with_reducible rfl | with_reducible assumption | omega)) ?_)
         | (refine c_false rfl (by first | with_reducible rfl | with_reducible assumption | ((with_reducible refine decide_eq_false ?_); first | with_reducible assumption | omega)) ?_))))
         | (refine z_isg0 ?_; first
         | (refine z_want0 rfl rfl (by first | with_reducible rfl | with_reducible assumption | ((with_reducible refine decide_eq_false ?_); first | with_reducible assumption | omega)) ?_))
         | (refine z_isnil ?_; first
         | refine z_list ?_)
         | (refine z_isop ?_; first
         | (refine z_isbin ?_; first
         | (refine z_isb .add ?_; first
         | refine o_add rfl rfl (by omega) (by omega) (by decide) ?_)
         | (refine z_isb .eql ?_; first
         | refine o_eq rfl rfl (by decide) ?_)
         | (refine z_isb .lss ?_; first
         | refine o_lt rfl rfl (by decide) ?_))
         | (refine z_ispick ?_; first
         | (refine o_pick0 rfl (by first | with_reducible rfl | with_reducible assumption | ((with_reducible refine decide_eq_false ?_); first | with_reducible assumption | omega)) rfl (by decide) ?_))
         | refine o_move rfl (by decide) ?_
         | refine o_assign rfl (by decide) ?_))
  · obtain rfl : n = 64 := by omega
    have hmem : ∀ k, k < (al (dC T a) 64).length → 0 ≤ (al (dC T a) 64).getD k 0 ∧ (al (dC T a) 64).getD k 0 < 64 := fun k hk => ⟨(al_getD hk).1, (al_getD hk).2.1⟩
    rw [hL] at hmem hl ⊢
    repeat' (first
     | (refine s_is ?_; first
     | (refine s_isw ?_; first
     | (refine s_isloop ?_; first
     | ((refine c_loop (X := Nat) (fun k => k ≤ L.length) (fun k => [(0, .pointer (some ⟨b, 0, none⟩)), (5, .pointer (some ⟨g5, 0, none⟩)), (7, .slice B L.length e), (9, .int .i64 (cn S T L k)), (10, .int .i64 k)]) (fun k => own B e 3 1 L.length (ilS L) :: cells g5 36 (bs S) :: cells b 43 (dt nb l) :: cells nb 40 (dnn (cl S T L k)) :: fr) (fun k => L.length - k) 0 (Nat.zero_le _) ⟨rfl, rfl, rfl, (by rw [cn_zero]; rfl), rfl, trivial⟩ (fun w h => by rw [cl_zero]; exact h) (fun k hk => ?_); refine c_own2 0 rfl fun hkc hne => ?_; refine hold ?_)))
     | refine c_seq ?_
     | refine c_block ?_
     | refine c_region ?_
     | refine c_exit ?_
     | (refine s_iscond ?_; first
     | (refine c_false rfl (by first | with_reducible rfl | with_reducible assumption | ((with_reducible refine decide_eq_false ?_); first | with_reducible assumption | omega)) ?_))))
     | (refine z_isnil ?_; first
     | refine z_list ?_)
     | (refine z_isop ?_; first
     | (refine z_isbin ?_; first
     | (refine z_isb .lss ?_; first
     | refine o_lt rfl rfl (by decide) ?_))
     | refine o_move rfl (by decide) ?_
     | refine o_assign rfl (by decide) ?_))
    refine Hold.go ?_
    have hcl := cn_le S T L k
    by_cases h8 : k < L.length
    · obtain ⟨hm0, hm1⟩ := hmem k h8
      have hz := cl_succ S T L k
      have hc0 := cn_0 (S := S) (T := T) (L := L) (k := k)
      have hc1 := cn_1 (S := S) (T := T) (L := L) (k := k)
      generalize hvv : L.getD k 0 = v at *
      generalize hx : cl S T L k v.toNat = x at *
      have hxe : (∀ (j : Nat) u, (dcs x)[j]? = some u → (dnn (cl S T L k))[v.toNat * 1026 + j]? = some u) := by rw [← hx]; exact dnn_el _ (by omega)
      have hvl : v.toNat < 64 := by omega
      by_cases hc : (al (layS 2 x.s S) 1024).length = 0
      · have hcc := hc0 hc
        repeat' (first
         | ((refine z_isdst 45 ?_; refine o_loadrw tabOk (cells_rds 3 rfl) rfl rfl rfl (es := dcs x) (dcs_len _) (by rw [dcs_len]; decide) hxe (by decide) ?_))
         | ((refine z_isdst 11 ?_; refine m_alloca (e := 40) (vs := dcs Cq.zero) (by rw [dcs_zero0]; kernel_rfl) ?_))
         | refine z_mono1 (by decide) fun g11 => ?_
         | ((refine z_isdst 47 ?_; refine o_loadrw tabOk (cells_rds 0 rfl) rfl rfl rfl (es := bs x.s) (bs_len _) (by rw [bs_len]; decide) (dcs_sat x) (by decide) ?_))
         | ((refine z_isdst 55 ?_; refine o_loadrw tabOk (cells_rds 0 rfl) rfl rfl rfl (es := bs x.s) (bs_len _) (by rw [bs_len]; decide) (dcs_sat x) (by decide) ?_))
         | (refine s_is ?_; first
         | (refine c_free0 ⟨[11], [11]⟩ [0, 1, 2, 3, 4, 5, 6, 7, 8, 9, 10, 11] (id := 11) mixed (by kernel_rfl) ?_)
         | (refine s_isagain ?_; first
         | (exact c_again (k + 1) (by omega) (by omega) ⟨rfl, rfl, rfl, (by rw [hcc]; rfl), rfl, trivial⟩ (fun w h => by rw [← hz]; exact ((h.sel 5 [1, 2, 3, 4, 0] (by decide)).mask [true, true, true, true, false]))))
         | (refine s_isw ?_; first
         | refine c_seq ?_
         | refine c_block ?_
         | refine c_region ?_
         | refine c_mixed mixed (by kernel_rfl) ?_
         | refine c_skip ?_
         | (refine s_iscond ?_; first
         | (refine c_true rfl (by first | with_reducible rfl | with_reducible assumption | ((with_reducible refine decide_eq_true ?_); first | with_reducible rfl | with_reducible assumption | omega)) ?_)
         | (refine c_false rfl (by first | with_reducible rfl | with_reducible assumption | ((with_reducible refine decide_eq_false ?_); first | with_reducible assumption | omega)) ?_))))
         | (refine z_isnil ?_; first
         | refine z_list ?_
         | refine z_mixed ?_)
         | (refine z_isop ?_; first
         | refine o_indexs1 tabOk (hne (by omega)) rfl rfl rfl rfl (by omega) (by omega) (by decide) ?_
         | refine m_inib tabOk (by decide) rfl (by decide) (fun _ => rfl) rfl (dcs_len _) (dcs_one _) (by rw [dcs_len, dcs_len]) ?_
         | refine o_indexskm tabOk rfl rfl rfl rfl (by omega) (by omega) (by decide) ?_
         | (refine z_isbin ?_; first
         | (refine z_isb .add ?_; first
         | refine o_add rfl rfl (by omega) (by omega) (by decide) ?_)
         | (refine z_isb .lss ?_; first
         | refine o_lt rfl rfl (by decide) ?_)
         | (refine z_isb .gtr ?_; first
         | refine o_gt rfl rfl (by decide) ?_))
         | (refine z_isload ?_; first
         | refine o_loadr tabOk (cells_rds 2 rfl) rfl rfl rfl (by first | exact dt_l _ _ | exact dt_n _ _ | exact dnn_at _ (by omega) (by omega) (dcs_g _) | exact dnn_at _ (by omega) (by omega) (dcs_p _) | (rw [ilS_at (by omega), hvv]) | rfl | rfl) (by decide) ?_
         | refine o_loadr tabOk (cells_rds 3 rfl) rfl rfl rfl (by first | exact dt_l _ _ | exact dt_n _ _ | exact dnn_at _ (by omega) (by omega) (dcs_g _) | exact dnn_at _ (by omega) (by omega) (dcs_p _) | (rw [ilS_at (by omega), hvv]) | rfl | rfl) (by decide) ?_
         | (refine z_ld1 tabOk rfl rfl ?_; first
         | refine o_loads tabOk (by first | exact own_rds 0 rfl | exact own_rds 1 rfl | exact own_rds 2 rfl | assumption) rfl rfl rfl (by first | exact dt_l _ _ | exact dt_n _ _ | exact dnn_at _ (by omega) (by omega) (dcs_g _) | exact dnn_at _ (by omega) (by omega) (dcs_p _) | (rw [ilS_at (by omega), hvv]) | rfl | rfl) (by decide) ?_)
         | (refine z_ldw tabOk rfl rfl ?_; first
         | (refine o_loadwm tabOk rfl rfl rfl (by repeat' (first | exact List.mem_cons_self | apply List.mem_cons_of_mem)) (by first | rfl | exact dt_len _ _ | exact dnn_len _ | exact dcs_len _ | exact bs_len _ | (simp only [dnn_len, dcs_len, bs_len]; done) | rfl) (by decide) ?_)))
         | (refine z_isstore ?_; first
         | (refine o_storew_at rfl 0 tabOk rfl rfl rfl rfl (bs_len _) (bs_one _) (by rw [bs_len, dcs_len]; omega) (dcs_cut S x) ?_)
         | refine o_storew_at rfl 4 tabOk rfl rfl rfl rfl (dcs_len _) (dcs_one _) (dnn_fit _ (i := v.toNat) hvl _) (dnn_puty _ (i := v.toNat) hvl _) ?_)
         | (refine z_iscall ?_; first
         | ((refine z_iscallf 43 ?_; refine o_fn rfl Try.func43 rfl rfl rfl (rlay_p _ _ _) (by decide) ?_))
         | ((refine z_iscallf 42 ?_; refine o_fn rfl Try.func42 rfl rfl rfl (dcount_c _) (by decide) ?_)))
         | (refine z_isbi ?_; first
         | refine o_len tabOk rfl rfl (by decide) ?_)
         | refine o_move rfl (by decide) ?_
         | refine o_assign rfl (by decide) ?_
         | refine o_nil rfl (by decide) ?_
         | refine o_field0 tabOk rfl rfl rfl rfl rfl (by decide) ?_))
      · have hcc := hc1 hc
        repeat' (first
         | ((refine z_isdst 45 ?_; refine o_loadrw tabOk (cells_rds 3 rfl) rfl rfl rfl (es := dcs x) (dcs_len _) (by rw [dcs_len]; decide) hxe (by decide) ?_))
         | ((refine z_isdst 11 ?_; refine m_alloca (e := 40) (vs := dcs Cq.zero) (by rw [dcs_zero0]; kernel_rfl) ?_))
         | refine z_mono1 (by decide) fun g11 => ?_
         | ((refine z_isdst 47 ?_; refine o_loadrw tabOk (cells_rds 0 rfl) rfl rfl rfl (es := bs x.s) (bs_len _) (by rw [bs_len]; decide) (dcs_sat x) (by decide) ?_))
         | ((refine z_isdst 55 ?_; refine o_loadrw tabOk (cells_rds 0 rfl) rfl rfl rfl (es := bs x.s) (bs_len _) (by rw [bs_len]; decide) (dcs_sat x) (by decide) ?_))
         | (refine s_is ?_; first
         | (refine c_free0 ⟨[11], [11]⟩ [0, 1, 2, 3, 4, 5, 6, 7, 8, 9, 10, 11] (id := 11) mixed (by kernel_rfl) ?_)
         | (refine s_isagain ?_; first
         | (exact c_again (k + 1) (by omega) (by omega) ⟨rfl, rfl, rfl, (by rw [hcc]; rfl), rfl, trivial⟩ (fun w h => by rw [← hz]; exact ((h.sel 5 [1, 2, 3, 4, 0] (by decide)).mask [true, true, true, true, false]))))
         | (refine s_isw ?_; first
         | refine c_seq ?_
         | refine c_block ?_
         | refine c_region ?_
         | refine c_mixed mixed (by kernel_rfl) ?_
         | refine c_skip ?_
         | (refine s_iscond ?_; first
         | (refine c_true rfl (by first | with_reducible rfl | with_reducible assumption | ((with_reducible refine decide_eq_true ?_); first | with_reducible rfl | with_reducible assumption | omega)) ?_))))
         | (refine z_isnil ?_; first
         | refine z_list ?_
         | refine z_mixed ?_)
         | (refine z_isop ?_; first
         | refine o_indexs1 tabOk (hne (by omega)) rfl rfl rfl rfl (by omega) (by omega) (by decide) ?_
         | refine m_inib tabOk (by decide) rfl (by decide) (fun _ => rfl) rfl (dcs_len _) (dcs_one _) (by rw [dcs_len, dcs_len]) ?_
         | refine o_indexskm tabOk rfl rfl rfl rfl (by omega) (by omega) (by decide) ?_
         | (refine z_isbin ?_; first
         | (refine z_isb .add ?_; first
         | refine o_add rfl rfl (by omega) (by omega) (by decide) ?_)
         | (refine z_isb .lss ?_; first
         | refine o_lt rfl rfl (by decide) ?_)
         | (refine z_isb .gtr ?_; first
         | refine o_gt rfl rfl (by decide) ?_))
         | (refine z_isload ?_; first
         | refine o_loadr tabOk (cells_rds 2 rfl) rfl rfl rfl (by first | exact dt_l _ _ | exact dt_n _ _ | exact dnn_at _ (by omega) (by omega) (dcs_g _) | exact dnn_at _ (by omega) (by omega) (dcs_p _) | (rw [ilS_at (by omega), hvv]) | rfl | rfl) (by decide) ?_
         | refine o_loadr tabOk (cells_rds 3 rfl) rfl rfl rfl (by first | exact dt_l _ _ | exact dt_n _ _ | exact dnn_at _ (by omega) (by omega) (dcs_g _) | exact dnn_at _ (by omega) (by omega) (dcs_p _) | (rw [ilS_at (by omega), hvv]) | rfl | rfl) (by decide) ?_
         | (refine z_ld1 tabOk rfl rfl ?_; first
         | refine o_loads tabOk (by first | exact own_rds 0 rfl | exact own_rds 1 rfl | exact own_rds 2 rfl | assumption) rfl rfl rfl (by first | exact dt_l _ _ | exact dt_n _ _ | exact dnn_at _ (by omega) (by omega) (dcs_g _) | exact dnn_at _ (by omega) (by omega) (dcs_p _) | (rw [ilS_at (by omega), hvv]) | rfl | rfl) (by decide) ?_)
         | (refine z_ldw tabOk rfl rfl ?_; first
         | (refine o_loadwm tabOk rfl rfl rfl (by repeat' (first | exact List.mem_cons_self | apply List.mem_cons_of_mem)) (by first | rfl | exact dt_len _ _ | exact dnn_len _ | exact dcs_len _ | exact bs_len _ | (simp only [dnn_len, dcs_len, bs_len]; done) | rfl) (by decide) ?_)))
         | (refine z_isstore ?_; first
         | (refine o_storew_at rfl 0 tabOk rfl rfl rfl rfl (bs_len _) (bs_one _) (by rw [bs_len, dcs_len]; omega) (dcs_cut S x) ?_)
         | refine o_storew_at rfl 4 tabOk rfl rfl rfl rfl (dcs_len _) (dcs_one _) (dnn_fit _ (i := v.toNat) hvl _) (dnn_puty _ (i := v.toNat) hvl _) ?_)
         | (refine z_iscall ?_; first
         | ((refine z_iscallf 43 ?_; refine o_fn rfl Try.func43 rfl rfl rfl (rlay_p _ _ _) (by decide) ?_))
         | ((refine z_iscallf 42 ?_; refine o_fn rfl Try.func42 rfl rfl rfl (dcount_c _) (by decide) ?_)))
         | (refine z_isbi ?_; first
         | refine o_len tabOk rfl rfl (by decide) ?_)
         | refine o_move rfl (by decide) ?_
         | refine o_assign rfl (by decide) ?_
         | refine o_nil rfl (by decide) ?_
         | refine o_field0 tabOk rfl rfl rfl rfl rfl (by decide) ?_))
    · obtain rfl : k = L.length := by omega
      rw [hT2]
      repeat' (first
       | (refine s_is ?_; first
       | (refine s_isw ?_; first
       | (refine s_isloop ?_; first
       | ((refine c_loop (X := Nat) (fun k => k ≤ L.length) (fun k => [(0, .pointer (some ⟨b, 0, none⟩)), (7, .slice B L.length e), (9, .int .i64 (cn S T L L.length)), (12, .int .i64 k)]) (fun k => own B e 3 1 L.length (ilS L) :: cells g5 36 (bs S) :: cells b 43 (dt nb l) :: cells nb 40 (dnn (ze T2 L k)) :: fr) (fun k => L.length - k) 0 (Nat.zero_le _) ⟨rfl, rfl, rfl, rfl, trivial⟩ (fun w h => by rw [ze_zero]; exact h) (fun k hk => ?_); refine c_own2 0 rfl fun hkc hne => ?_; refine hold ?_)))
       | refine c_seq ?_
       | refine c_block ?_
       | refine c_region ?_
       | refine c_exit ?_
       | (refine s_iscond ?_; first
       | (refine c_false rfl (by first | with_reducible rfl | with_reducible assumption | ((with_reducible refine decide_eq_false ?_); first | with_reducible assumption | omega)) ?_))))
       | (refine z_isnil ?_; first
       | refine z_list ?_)
       | (refine z_isop ?_; first
       | (refine z_isbin ?_; first
       | (refine z_isb .lss ?_; first
       | refine o_lt rfl rfl (by decide) ?_))
       | (refine z_isbi ?_; first
       | refine o_len tabOk rfl rfl (by decide) ?_)
       | refine o_move rfl (by decide) ?_
       | refine o_assign rfl (by decide) ?_))
      refine Hold.go ?_
      by_cases h8 : k < L.length
      · obtain ⟨hm0, hm1⟩ := hmem k h8
        have hz1 := ze_yes (T := T2) (L := L) (k := k)
        have hz0 := ze_no (T := T2) (L := L) (k := k)
        generalize hvv : L.getD k 0 = v at *
        have hvl : v.toNat < 64 := by omega
        by_cases hp : 0 ≤ (ze T2 L k v.toNat).p
        · by_cases hc : (al (ze T2 L k v.toNat).s 1024).length = 0
          · have hz := hz1 hp hc
            repeat' (first
             | ((refine z_isdst 98 ?_; refine o_loadrw tabOk (cells_rds 3 rfl) rfl rfl rfl (es := bs (ze T2 L k v.toNat).s) (bs_len _) (by rw [bs_len]; decide) (dnn_s _ hvl) (by decide) ?_))
             | ((refine z_isdst 110 ?_; refine o_build0 (t := 40) (v := .agg (dcs Cq.zero).toArray) (fun _ => by rw [dcs_zero0]; kernel_rfl) (by decide) ?_))
             | (refine s_is ?_; first
             | (refine s_isagain ?_; first
             | (exact c_again (k + 1) (by omega) (by omega) ⟨rfl, rfl, rfl, rfl, trivial⟩ (fun w h => by rw [← hz]; exact h)))
             | (refine s_isw ?_; first
             | refine c_seq ?_
             | refine c_block ?_
             | refine c_region ?_
             | refine c_mixed mixed (by kernel_rfl) ?_
             | refine c_skip ?_
             | (refine s_iscond ?_; first
             | (refine c_true rfl (by first | with_reducible rfl | with_reducible assumption | ((with_reducible refine decide_eq_true ?_); first | with_reducible rfl | with_reducible assumption | omega)) ?_))))
             | (refine z_isg1 ?_; first
             | (refine z_want1 rfl rfl (by first | with_reducible rfl | with_reducible assumption | ((with_reducible refine decide_eq_true ?_); first | with_reducible rfl | with_reducible assumption | omega)) ?_))
             | (refine z_isnil ?_; first
             | refine z_list ?_
             | refine z_mixed ?_)
             | (refine z_isop ?_; first
             | refine o_indexs1 tabOk (hne (by omega)) rfl rfl rfl rfl (by omega) (by omega) (by decide) ?_
             | refine o_indexskm tabOk rfl rfl rfl rfl (by omega) (by omega) (by decide) ?_
             | (refine z_isbin ?_; first
             | (refine z_isb .add ?_; first
             | refine o_add rfl rfl (by omega) (by omega) (by decide) ?_)
             | (refine z_isb .eql ?_; first
             | refine o_eq rfl rfl (by decide) ?_)
             | (refine z_isb .lss ?_; first
             | refine o_lt rfl rfl (by decide) ?_)
             | (refine z_isb .geq ?_; first
             | refine o_ge rfl rfl (by decide) ?_))
             | (refine z_isload ?_; first
             | refine o_loadr tabOk (cells_rds 2 rfl) rfl rfl rfl (by first | exact dt_l _ _ | exact dt_n _ _ | exact dnn_at _ (by omega) (by omega) (dcs_g _) | exact dnn_at _ (by omega) (by omega) (dcs_p _) | (rw [ilS_at (by omega), hvv]) | rfl | rfl) (by decide) ?_
             | refine o_loadr tabOk (cells_rds 3 rfl) rfl rfl rfl (by first | exact dt_l _ _ | exact dt_n _ _ | exact dnn_at _ (by omega) (by omega) (dcs_g _) | exact dnn_at _ (by omega) (by omega) (dcs_p _) | (rw [ilS_at (by omega), hvv]) | rfl | rfl) (by decide) ?_
             | (refine z_ld1 tabOk rfl rfl ?_; first
             | refine o_loads tabOk (by first | exact own_rds 0 rfl | exact own_rds 1 rfl | exact own_rds 2 rfl | assumption) rfl rfl rfl (by first | exact dt_l _ _ | exact dt_n _ _ | exact dnn_at _ (by omega) (by omega) (dcs_g _) | exact dnn_at _ (by omega) (by omega) (dcs_p _) | (rw [ilS_at (by omega), hvv]) | rfl | rfl) (by decide) ?_))
             | (refine z_isstore ?_; first
             | refine o_storew_at rfl 3 tabOk rfl rfl rfl rfl (dcs_len _) (dcs_one _) (dnn_fit _ (i := v.toNat) hvl _) (dnn_puty _ (i := v.toNat) hvl _) ?_)
             | (refine z_iscall ?_; first
             | ((refine z_iscallf 42 ?_; refine o_fn rfl Try.func42 rfl rfl rfl (dcount_c _) (by decide) ?_)))
             | (refine z_ispick ?_; first
             | (refine o_pick1 rfl (by first | with_reducible rfl | with_reducible assumption | ((with_reducible refine decide_eq_true ?_); first | with_reducible rfl | with_reducible assumption | omega)) rfl (by decide) ?_))
             | (refine z_isbi ?_; first
             | refine o_len tabOk rfl rfl (by decide) ?_)
             | refine o_move rfl (by decide) ?_
             | refine o_assign rfl (by decide) ?_
             | refine o_nil rfl (by decide) ?_
             | refine o_field0 tabOk rfl rfl rfl rfl rfl (by decide) ?_
             | refine o_field tabOk rfl rfl rfl rfl rfl (by decide) ?_))
          · have hz := hz0 (fun e => hc e.2)
            repeat' (first
             | ((refine z_isdst 98 ?_; refine o_loadrw tabOk (cells_rds 3 rfl) rfl rfl rfl (es := bs (ze T2 L k v.toNat).s) (bs_len _) (by rw [bs_len]; decide) (dnn_s _ hvl) (by decide) ?_))
             | (refine s_is ?_; first
             | (refine s_isagain ?_; first
             | (exact c_again (k + 1) (by omega) (by omega) ⟨rfl, rfl, rfl, rfl, trivial⟩ (fun w h => by rw [hz]; exact h)))
             | (refine s_isw ?_; first
             | refine c_seq ?_
             | refine c_block ?_
             | refine c_region ?_
             | refine c_mixed mixed (by kernel_rfl) ?_
             | refine c_skip ?_
             | (refine s_iscond ?_; first
             | (refine c_true rfl (by first | with_reducible rfl | with_reducible assumption | ((with_reducible refine decide_eq_true ?_); first | with_reducible rfl | with_reducible assumption | omega)) ?_)
             | (refine c_false rfl (by first | with_reducible rfl | with_reducible assumption | ((with_reducible refine decide_eq_false ?_); first | with_reducible assumption | omega)) ?_))))
             | (refine z_isg1 ?_; first
             | (refine z_want1 rfl rfl (by first | with_reducible rfl | with_reducible assumption | ((with_reducible refine decide_eq_true ?_); first | with_reducible rfl | with_reducible assumption | omega)) ?_))
             | (refine z_isnil ?_; first
             | refine z_list ?_
             | refine z_mixed ?_)
             | (refine z_isop ?_; first
             | refine o_indexs1 tabOk (hne (by omega)) rfl rfl rfl rfl (by omega) (by omega) (by decide) ?_
             | refine o_indexskm tabOk rfl rfl rfl rfl (by omega) (by omega) (by decide) ?_
             | (refine z_isbin ?_; first
             | (refine z_isb .add ?_; first
             | refine o_add rfl rfl (by omega) (by omega) (by decide) ?_)
             | (refine z_isb .eql ?_; first
             | refine o_eq rfl rfl (by decide) ?_)
             | (refine z_isb .lss ?_; first
             | refine o_lt rfl rfl (by decide) ?_)
             | (refine z_isb .geq ?_; first
             | refine o_ge rfl rfl (by decide) ?_))
             | (refine z_isload ?_; first
             | refine o_loadr tabOk (cells_rds 2 rfl) rfl rfl rfl (by first | exact dt_l _ _ | exact dt_n _ _ | exact dnn_at _ (by omega) (by omega) (dcs_g _) | exact dnn_at _ (by omega) (by omega) (dcs_p _) | (rw [ilS_at (by omega), hvv]) | rfl | rfl) (by decide) ?_
             | refine o_loadr tabOk (cells_rds 3 rfl) rfl rfl rfl (by first | exact dt_l _ _ | exact dt_n _ _ | exact dnn_at _ (by omega) (by omega) (dcs_g _) | exact dnn_at _ (by omega) (by omega) (dcs_p _) | (rw [ilS_at (by omega), hvv]) | rfl | rfl) (by decide) ?_
             | (refine z_ld1 tabOk rfl rfl ?_; first
             | refine o_loads tabOk (by first | exact own_rds 0 rfl | exact own_rds 1 rfl | exact own_rds 2 rfl | assumption) rfl rfl rfl (by first | exact dt_l _ _ | exact dt_n _ _ | exact dnn_at _ (by omega) (by omega) (dcs_g _) | exact dnn_at _ (by omega) (by omega) (dcs_p _) | (rw [ilS_at (by omega), hvv]) | rfl | rfl) (by decide) ?_))
             | (refine z_iscall ?_; first
             | ((refine z_iscallf 42 ?_; refine o_fn rfl Try.func42 rfl rfl rfl (dcount_c _) (by decide) ?_)))
             | (refine z_ispick ?_; first
             | (refine o_pick1 rfl (by first | with_reducible rfl | with_reducible assumption | ((with_reducible refine decide_eq_true ?_); first | with_reducible rfl | with_reducible assumption | omega)) rfl (by decide) ?_))
             | (refine z_isbi ?_; first
             | refine o_len tabOk rfl rfl (by decide) ?_)
             | refine o_move rfl (by decide) ?_
             | refine o_assign rfl (by decide) ?_
             | refine o_nil rfl (by decide) ?_
             | refine o_field0 tabOk rfl rfl rfl rfl rfl (by decide) ?_
             | refine o_field tabOk rfl rfl rfl rfl rfl (by decide) ?_))
        · have hz := hz0 (fun e => hp e.1)
          repeat' (first
           | (refine s_is ?_; first
           | (refine s_isagain ?_; first
           | (exact c_again (k + 1) (by omega) (by omega) ⟨rfl, rfl, rfl, rfl, trivial⟩ (fun w h => by rw [hz]; exact h)))
           | (refine s_isw ?_; first
           | refine c_seq ?_
           | refine c_block ?_
           | refine c_region ?_
           | refine c_mixed mixed (by kernel_rfl) ?_
           | refine c_skip ?_
           | (refine s_iscond ?_; first
           | (refine c_true rfl (by first | with_reducible rfl | with_reducible assumption | ((with_reducible refine decide_eq_true ?_); first | with_reducible rfl | with_reducible assumption | omega)) ?_)
           | (refine c_false rfl (by first | with_reducible rfl | with_reducible assumption | ((with_reducible refine decide_eq_false ?_); first | with_reducible assumption | omega)) ?_))))
           | (refine z_isg1 ?_; first
           | (refine z_skip1 (by decide) rfl rfl (by first | with_reducible rfl | with_reducible assumption | ((with_reducible refine decide_eq_false ?_); first | with_reducible assumption | omega)) ?_))
           | (refine z_isnil ?_; first
           | refine z_list ?_
           | refine z_mixed ?_)
           | (refine z_isop ?_; first
           | refine o_indexs1 tabOk (hne (by omega)) rfl rfl rfl rfl (by omega) (by omega) (by decide) ?_
           | refine o_indexskm tabOk rfl rfl rfl rfl (by omega) (by omega) (by decide) ?_
           | (refine z_isbin ?_; first
           | (refine z_isb .add ?_; first
           | refine o_add rfl rfl (by omega) (by omega) (by decide) ?_)
           | (refine z_isb .lss ?_; first
           | refine o_lt rfl rfl (by decide) ?_)
           | (refine z_isb .geq ?_; first
           | refine o_ge rfl rfl (by decide) ?_))
           | (refine z_isload ?_; first
           | refine o_loadr tabOk (cells_rds 2 rfl) rfl rfl rfl (by first | exact dt_l _ _ | exact dt_n _ _ | exact dnn_at _ (by omega) (by omega) (dcs_g _) | exact dnn_at _ (by omega) (by omega) (dcs_p _) | (rw [ilS_at (by omega), hvv]) | rfl | rfl) (by decide) ?_
           | refine o_loadr tabOk (cells_rds 3 rfl) rfl rfl rfl (by first | exact dt_l _ _ | exact dt_n _ _ | exact dnn_at _ (by omega) (by omega) (dcs_g _) | exact dnn_at _ (by omega) (by omega) (dcs_p _) | (rw [ilS_at (by omega), hvv]) | rfl | rfl) (by decide) ?_
           | (refine z_ld1 tabOk rfl rfl ?_; first
           | refine o_loads tabOk (by first | exact own_rds 0 rfl | exact own_rds 1 rfl | exact own_rds 2 rfl | assumption) rfl rfl rfl (by first | exact dt_l _ _ | exact dt_n _ _ | exact dnn_at _ (by omega) (by omega) (dcs_g _) | exact dnn_at _ (by omega) (by omega) (dcs_p _) | (rw [ilS_at (by omega), hvv]) | rfl | rfl) (by decide) ?_))
           | (refine z_ispick ?_; first
           | (refine o_pick0 rfl (by first | with_reducible rfl | with_reducible assumption | ((with_reducible refine decide_eq_false ?_); first | with_reducible assumption | omega)) rfl (by decide) ?_))
           | (refine z_isbi ?_; first
           | refine o_len tabOk rfl rfl (by decide) ?_)
           | refine o_move rfl (by decide) ?_
           | refine o_assign rfl (by decide) ?_
           | refine o_nil rfl (by decide) ?_
           | refine o_field0 tabOk rfl rfl rfl rfl rfl (by decide) ?_
           | refine o_field tabOk rfl rfl rfl rfl rfl (by decide) ?_))
      · obtain rfl : k = L.length := by omega
        repeat' (first
         | (refine s_is ?_; first
         | (refine s_isret ?_; first
         | exact f_r1 rfl (res_t rfl) () trivial rfl (fun w h => ((h.sel 4 [2, 3, 0, 1] (by decide)).mask [true, true, false, false])))
         | (refine s_isw ?_; first
         | refine c_seq ?_
         | refine c_region ?_
         | refine c_ret ?_
         | refine c_exit ?_
         | (refine s_iscond ?_; first
         | (refine c_false rfl (by first | with_reducible rfl | with_reducible assumption | ((with_reducible refine decide_eq_false ?_); first | with_reducible assumption | omega)) ?_))))
         | (refine z_isnil ?_; first
         | refine z_list ?_)
         | (refine z_isop ?_; first
         | (refine z_isbin ?_; first
         | (refine z_isb .lss ?_; first
         | refine o_lt rfl rfl (by decide) ?_))
         | (refine z_isbi ?_; first
         | refine o_len tabOk rfl rfl (by decide) ?_)
         | refine o_move rfl (by decide) ?_
         | refine o_assign rfl (by decide) ?_))
end Go.Proofs.Ytfegdehgnhomnaa
