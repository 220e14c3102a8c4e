/-
Tables of names: deeds; the table that they make, and the document's; alike; the law's own probe.
-/
import Derived.Test.YtjjhlkjnjbagfaaNa5
import Derived.Test.YtjjhlkjnjbagfaaOpen
namespace Go.Proofs.Ytjjhlkjnjbagfaa
set_option linter.unusedVariables false
set_option linter.unusedSimpArgs false
open Eng
/-- A deed. -/
structure Dn where
  k : Int
  n : Int
def Dn.cs (d : Dn) : List Value := [.int .i64 d.k, .int .i64 d.n]
theorem dn_len (d : Dn) : d.cs.length = 2 := rfl
theorem dn_one (d : Dn) : d.cs.all (·.oneCell') = true := rfl
theorem dn_at (D : List Dn) {i : Nat} (d : Dn) (h : D[i]? = some d) : ∀ (j : Nat) u, d.cs[j]? = some u → (D.flatMap Dn.cs)[i * 2 + j]? = some u := fun j u hu => by
  have hj : j < 2 := (List.getElem?_eq_some_iff.1 hu).1
  rw [flat_get Dn.cs 2 dn_len D i j d h hj]; exact hu
theorem dn_k (D : List Dn) {i : Nat} (d : Dn) (h : D[i]? = some d) : (D.flatMap Dn.cs)[((i : Int)).toNat * 2 + 0]? = some (.int .i64 d.k) := by rw [Int.toNat_natCast]; exact dn_at D d h 0 _ rfl
theorem dn_n (D : List Dn) {i : Nat} (d : Dn) (h : D[i]? = some d) : (D.flatMap Dn.cs)[((i : Int)).toNat * 2 + 1]? = some (.int .i64 d.n) := by rw [Int.toNat_natCast]; exact dn_at D d h 1 _ rfl
theorem dn_open {W : World} {r : List Value} (h : Is W (.struct [.int .i64, .int .i64]) r) : ∃ d : Dn, r = d.cs ∧ True := by
  obtain ⟨x, y, rfl, h0, h1⟩ := h.struct2
  obtain ⟨k, rfl, hk⟩ := h0.int_inv
  obtain ⟨n, rfl, hn⟩ := h1.int_inv
  exact ⟨⟨k, n⟩, rfl, trivial⟩
/-- What a deed makes of a table. -/
def dee (L : List Int) (d : Dn) : List Int := if 0 ≤ d.k ∧ d.k ≤ 3 then (match addL L d.n with | some p => p.1 | none => L) else (match drL L d.n with | some M => M | none => L)
theorem dee_ay {L L' : List Int} {d : Dn} {k : Nat} (h : 0 ≤ d.k ∧ d.k ≤ 3) (ha : addL L d.n = some (L', k)) : dee L d = L' := by unfold dee; rw [if_pos h, ha]
theorem dee_an {L : List Int} {d : Dn} (h : 0 ≤ d.k ∧ d.k ≤ 3) (ha : addL L d.n = none) : dee L d = L := by unfold dee; rw [if_pos h, ha]
theorem dee_dy {L L' : List Int} {d : Dn} (h : ¬ (0 ≤ d.k ∧ d.k ≤ 3)) (ha : drL L d.n = some L') : dee L d = L' := by unfold dee; rw [if_neg h, ha]
theorem dee_dn {L : List Int} {d : Dn} (h : ¬ (0 ≤ d.k ∧ d.k ≤ 3)) (ha : drL L d.n = none) : dee L d = L := by unfold dee; rw [if_neg h, ha]
/-- The table of the first n deeds. -/
def mk (D : List Dn) : Nat → List Int
  | 0 => []
  | n + 1 => match D[n]? with
    | some d => dee (mk D n) d
    | none => mk D n
theorem mk_zero (D : List Dn) : mk D 0 = [] := rfl
theorem mk_succ {D : List Dn} {n : Nat} {d : Dn} (h : D[n]? = some d) : mk D (n + 1) = dee (mk D n) d := by simp only [mk]; rw [h]
theorem Nm.dee {L : List Int} (h : Nm L) (d : Dn) : Nm (dee L d) := by
  unfold Proofs.Ytjjhlkjnjbagfaa.dee
  split
  · split
    · rename_i p hp; obtain ⟨a, b⟩ := p; exact h.add hp
    · exact h
  · split
    · rename_i M hM; exact h.dr hM
    · exact h
theorem dee_len (L : List Int) (d : Dn) (hl : L.length ≤ 512) : (dee L d).length ≤ L.length + 1 := by
  unfold dee
  split
  · split
    · rename_i p hp; obtain ⟨a, b⟩ := p; exact (add_len hp hl).2.1
    · omega
  · split
    · rename_i M hM; rw [dr_len hM]; omega
    · omega
theorem mk_ok (D : List Dn) : ∀ n, n ≤ 500 → Nm (mk D n) ∧ (mk D n).length ≤ n
  | 0, _ => ⟨nm_nil, Nat.le_refl _⟩
  | n + 1, h => by
    obtain ⟨h1, h2⟩ := mk_ok D n (by omega)
    cases hd : D[n]? with
    | none =>
      have : mk D (n + 1) = mk D n := by simp only [mk]; rw [hd]
      rw [this]; exact ⟨h1, by omega⟩
    | some d =>
      rw [mk_succ hd]
      exact ⟨h1.dee d, by have := dee_len (mk D n) d (by omega); omega⟩
/-- How many deeds are done. -/
def mkc (D : List Dn) : List Int := mk D (min D.length 40)
theorem mkc_ok (D : List Dn) : Nm (mkc D) ∧ (mkc D).length ≤ 40 := by
  have := mk_ok D (min D.length 40) (by omega)
  exact ⟨this.1, Nat.le_trans this.2 (by omega)⟩
theorem mkc_end {D : List Dn} {i : Nat} (h : i ≤ D.length ∧ i ≤ 40) (h2 : ¬ (i < D.length ∧ i < 40)) : mk D i = mkc D := by unfold mkc; congr 1; omega
attribute [local irreducible] Eng.Hold Eng.Z Eng.S Eng.cells Eng.old Eng.own il fi gt addL drL nmN
attribute [local irreducible] ix fd gv Dn.cs mk dee
set_option maxHeartbeats 4000000 in
theorem made_c (D : List Dn) (A0 : Option Addr) (c0 : Nat) (fr : List Chunk) (hrd0 : Rds fr A0 (D.flatMap Dn.cs)) (hx : D.length ≤ 9223372036854775807) :
    Does Try.prog 10 [.slice A0 D.length c0] fr (fun _ : Option Addr × Nat × Option Addr × Nat => True) (fun x => .tuple #[.agg #[.slice x.1 (mkc D).length x.2.1], .slice x.2.2.1 (mkc D).length x.2.2.2]) (fun x => own x.1 x.2.1 3 1 (mkc D).length (il (mkc D)) :: own x.2.2.1 x.2.2.2 3 1 (mkc D).length (il (mkc D)) :: fr) := by
  intro w hw
  have hne0 : 0 < D.length → A0 ≠ none := fun h => hrd0.ne hw (by rw [flat_len Dn.cs 2 dn_len]; omega)
  refine f_enter Try.func10 rfl Try.ntmps10 rfl hw ?_
  repeat' (first
   | (refine s_is ?_; first
   | (refine s_isw ?_; first
   | (refine s_isloop ?_; first
   | ((rename_i g2; refine c_loop (X := Option Addr × Nat × Option Addr × Nat × Nat) (fun y => y.2.2.2.2 ≤ D.length ∧ y.2.2.2.2 ≤ 40) (fun y => [(0, .slice A0 D.length c0), (2, .pointer (some ⟨g2, 0, none⟩)), (4, .pointer (some ⟨g, 0, none⟩)), (5, .slice y.2.2.1 (mk D y.2.2.2.2).length y.2.2.2.1), (6, .int .i64 y.2.2.2.2)]) (fun y => cells g 27 [.slice y.1 (mk D y.2.2.2.2).length y.2.1] :: own y.1 y.2.1 3 1 (mk D y.2.2.2.2).length (il (mk D y.2.2.2.2)) :: own y.2.2.1 y.2.2.2.1 3 1 (mk D y.2.2.2.2).length (il (mk D y.2.2.2.2)) :: cells g2 27 [.slice none 0 0] :: fr) (fun y => D.length - y.2.2.2.2) (none, 0, none, 0, 0) ⟨Nat.zero_le _, Nat.zero_le _⟩ ⟨rfl, rfl, rfl, (by dsimp only; rw [mk_zero]; rfl), rfl, trivial⟩ (fun w h => by dsimp only; rw [mk_zero, il_nil]; have := (h.nil 3 1).nil 3 1; exact (this.sel 4 [2, 0, 1, 3] (by decide))) (fun y hy => ?_); obtain ⟨A, c, B, e, i⟩ := y; obtain ⟨hi, hi4⟩ := hy; dsimp only at hi hi4 ⊢; refine hold ?_)))
   | refine c_seq ?_
   | refine c_block ?_
   | refine c_region ?_))
   | (refine z_isnil ?_; first
   | refine z_list ?_)
   | (refine z_isop ?_; first
   | refine o_alloca (e := 27) (vs := [.slice none 0 0]) rfl (by kernel_rfl) (by decide) fun g => ?_
   | refine o_assign rfl (by decide) ?_))
  refine Hold.go ?_
  obtain ⟨hL, hl⟩ := mk_ok D i (by omega)
  by_cases hlt : i < D.length ∧ i < 40
  · obtain ⟨d, hd⟩ : ∃ d, D[i]? = some d := ⟨D[i], List.getElem?_eq_getElem hlt.1⟩
    have hs := mk_succ hd
    generalize hM : mk D i = L at *
    by_cases hk : 0 ≤ d.k ∧ d.k ≤ 3
    · cases ha : addL L d.n with
      | some p =>
        obtain ⟨L', q⟩ := p
        rw [dee_ay hk ha] at hs
        repeat' (first
         | refine z_mono0ww ?_
         | ((refine z_isdst 32 ?_; refine o_loadwv rfl tabOk rfl rfl rfl List.mem_cons_self rfl (by decide) ?_))
         | (refine s_is ?_; first
         | (refine c_free1 ⟨[32, 38], []⟩ [1, 2, 3, 4, 5, 0, 6, 7, 8, 9, 10, 11] (id := 7) mixed (by kernel_rfl) ?_)
         | (refine s_isagain ?_; first
         | (exact c_again (u.1, u.2, v.1, v.2, i + 1) ⟨by dsimp only; omega, by dsimp only; omega⟩ (by dsimp only; omega) ⟨rfl, rfl, rfl, (by dsimp only; rw [hs]; rfl), rfl, trivial⟩ (fun w h => by dsimp only; rw [hs]; exact ((h.sel 6 [2, 1, 0, 5, 3, 4] (by decide)).mask [true, true, true, true, false, false]))))
         | (refine s_isw ?_; first
         | refine c_seq ?_
         | refine c_block ?_
         | refine c_region ?_
         | refine c_skip ?_
         | (refine s_iscond ?_; first
         | (refine c_true rfl (by first | with_reducible rfl | with_reducible assumption | ((with_reducible refine decide_eq_true ?_); first | with_reducible rfl | with_reducible assumption | omega)) ?_))))
         | (refine z_isg1 ?_; first
         | (refine z_want1 rfl rfl (by first | with_reducible rfl | with_reducible assumption | ((with_reducible refine decide_eq_true ?_); first | with_reducible rfl | with_reducible assumption | omega)) ?_))
         | (refine z_isnil ?_; first
         | refine z_list ?_)
         | (refine z_isop ?_; first
         | refine o_fields (by first | exact hne0 (by omega) | assumption) tabOk rfl rfl rfl rfl rfl (by decide) ?_
         | refine o_indexsn tabOk (hne0 (by omega)) rfl rfl rfl rfl (by omega) (by omega) (by decide) ?_
         | (refine z_isbin ?_; first
         | (refine z_isb .add ?_; first
         | refine o_add rfl rfl (by omega) (by omega) (by decide) ?_)
         | (refine z_isb .lss ?_; first
         | refine o_lt rfl rfl (by decide) ?_)
         | (refine z_isb .leq ?_; first
         | refine o_le rfl rfl (by decide) ?_)
         | (refine z_isb .geq ?_; first
         | refine o_ge rfl rfl (by decide) ?_))
         | (refine z_isload ?_; first
         | (refine z_ld1 tabOk rfl rfl ?_; first
         | refine o_loads tabOk (by first | (repeat (first | exact hrd0 | apply Rds.cons)) | assumption) rfl rfl rfl (by first | exact dn_k D d hd | exact dn_n D d hd | rfl) (by decide) ?_))
         | (refine z_isstore ?_; first
         | refine o_storebv 1 tabOk rfl rfl rfl rfl rfl rfl rfl rfl ?_)
         | (refine z_iscall ?_; first
         | ((refine z_iscallf 12 ?_; refine o_callx1 Try.func12 rfl rfl rfl (add_yes L L' q _ _ _ _ (own_rds 1 rfl) (by omega) ha) (by decide) (by decide) fun u _ => ?_))
         | ((refine z_iscallf 13 ?_; refine o_calla Try.func13 rfl rfl rfl (radd_yes L L' q hL _ _ _ _ (own_rds 3 rfl) (by omega) ha) (by decide) fun v _ => ?_)))
         | (refine z_ispick ?_; first
         | (refine o_pick1 rfl (by first | with_reducible rfl | with_reducible assumption | ((with_reducible refine decide_eq_true ?_); first | with_reducible rfl | with_reducible assumption | omega)) rfl (by decide) ?_))
         | (refine z_isbi ?_; first
         | refine o_len tabOk rfl rfl (by decide) ?_)
         | refine o_move rfl (by decide) ?_
         | refine o_assign rfl (by decide) ?_
         | refine o_extract rfl rfl (by decide) ?_))
      | none =>
        rw [dee_an hk ha] at hs
        repeat' (first
         | refine z_mono0w ?_
         | ((refine z_isdst 32 ?_; refine o_loadwv rfl tabOk rfl rfl rfl List.mem_cons_self rfl (by decide) ?_))
         | (refine s_is ?_; first
         | (refine c_free1 ⟨[32, 38], []⟩ [1, 2, 3, 4, 5, 0, 6, 7, 8, 9, 10, 11] (id := 7) mixed (by kernel_rfl) ?_)
         | (refine s_isagain ?_; first
         | (exact c_again (A, c, B, e, i + 1) ⟨by dsimp only; omega, by dsimp only; omega⟩ (by dsimp only; omega) ⟨rfl, rfl, rfl, (by dsimp only; rw [hs]; rfl), rfl, trivial⟩ (fun w h => by dsimp only; rw [hs]; exact h)))
         | (refine s_isw ?_; first
         | refine c_seq ?_
         | refine c_block ?_
         | refine c_region ?_
         | refine c_skip ?_
         | (refine s_iscond ?_; first
         | (refine c_true rfl (by first | with_reducible rfl | with_reducible assumption | ((with_reducible refine decide_eq_true ?_); first | with_reducible rfl | with_reducible assumption | omega)) ?_))))
         | (refine z_isg1 ?_; first
         | (refine z_want1 rfl rfl (by first | with_reducible rfl | with_reducible assumption | ((with_reducible refine decide_eq_true ?_); first | with_reducible rfl | with_reducible assumption | omega)) ?_))
         | (refine z_isnil ?_; first
         | refine z_list ?_)
         | (refine z_isop ?_; first
         | refine o_fields (by first | exact hne0 (by omega) | assumption) tabOk rfl rfl rfl rfl rfl (by decide) ?_
         | refine o_indexsn tabOk (hne0 (by omega)) rfl rfl rfl rfl (by omega) (by omega) (by decide) ?_
         | (refine z_isbin ?_; first
         | (refine z_isb .add ?_; first
         | refine o_add rfl rfl (by omega) (by omega) (by decide) ?_)
         | (refine z_isb .lss ?_; first
         | refine o_lt rfl rfl (by decide) ?_)
         | (refine z_isb .leq ?_; first
         | refine o_le rfl rfl (by decide) ?_)
         | (refine z_isb .geq ?_; first
         | refine o_ge rfl rfl (by decide) ?_))
         | (refine z_isload ?_; first
         | (refine z_ld1 tabOk rfl rfl ?_; first
         | refine o_loads tabOk (by first | (repeat (first | exact hrd0 | apply Rds.cons)) | assumption) rfl rfl rfl (by first | exact dn_k D d hd | exact dn_n D d hd | rfl) (by decide) ?_))
         | (refine z_isstore ?_; first
         | refine o_storebv 0 tabOk rfl rfl rfl rfl rfl rfl rfl rfl ?_)
         | (refine z_iscall ?_; first
         | ((refine z_iscallf 12 ?_; refine o_callx0 Try.func12 rfl rfl rfl (add_no L _ _ _ _ (own_rds 1 rfl) (by omega) ha) (by decide) (by decide) ?_))
         | ((refine z_iscallf 13 ?_; refine o_calla Try.func13 rfl rfl rfl (radd_no L hL _ _ _ _ (own_rds 2 rfl) (by omega) ha) (by decide) fun v _ => ?_)))
         | (refine z_ispick ?_; first
         | (refine o_pick1 rfl (by first | with_reducible rfl | with_reducible assumption | ((with_reducible refine decide_eq_true ?_); first | with_reducible rfl | with_reducible assumption | omega)) rfl (by decide) ?_))
         | (refine z_isbi ?_; first
         | refine o_len tabOk rfl rfl (by decide) ?_)
         | refine o_move rfl (by decide) ?_
         | refine o_assign rfl (by decide) ?_
         | refine o_extract rfl rfl (by decide) ?_))
    · have hk' : ¬ (0 ≤ d.k) ∨ ¬ (d.k ≤ 3) := by omega
      cases ha : drL L d.n with
      | some L' =>
        rw [dee_dy hk ha] at hs
        by_cases hk0 : 0 ≤ d.k
        · have hk3 : ¬ (d.k ≤ 3) := by omega
          repeat' (first
           | refine z_mono0ww ?_
           | ((refine z_isdst 53 ?_; refine o_loadwv rfl tabOk rfl rfl rfl List.mem_cons_self rfl (by decide) ?_))
           | (refine s_is ?_; first
           | (refine c_free1 ⟨[53, 59], []⟩ [1, 2, 3, 4, 5, 0, 6, 7, 8, 9, 10] (id := 9) mixed (by kernel_rfl) ?_)
           | (refine s_isagain ?_; first
           | (exact c_again (u.1, u.2, v.1, v.2, i + 1) ⟨by dsimp only; omega, by dsimp only; omega⟩ (by dsimp only; omega) ⟨rfl, rfl, rfl, (by dsimp only; rw [hs]; rfl), rfl, trivial⟩ (fun w h => by dsimp only; rw [hs]; exact ((h.sel 6 [2, 1, 0, 5, 3, 4] (by decide)).mask [true, true, true, true, false, false]))))
           | (refine s_isw ?_; first
           | refine c_seq ?_
           | refine c_block ?_
           | refine c_region ?_
           | refine c_skip ?_
           | (refine s_iscond ?_; first
           | (refine c_true rfl (by first | with_reducible rfl | with_reducible assumption | ((with_reducible refine decide_eq_true ?_); first | with_reducible rfl | with_reducible assumption | omega)) ?_)
           | (refine c_false rfl (by first | with_reducible rfl | with_reducible assumption | ((with_reducible refine decide_eq_false ?_); first | with_reducible assumption | omega)) ?_))))
           | (refine z_isg1 ?_; first
           | (refine z_want1 rfl rfl (by first | with_reducible rfl | with_reducible assumption | ((with_reducible refine decide_eq_true ?_); first | with_reducible rfl | with_reducible assumption | omega)) ?_))
           | (refine z_isnil ?_; first
           | refine z_list ?_)
           | (refine z_isop ?_; first
           | refine o_fields (by first | exact hne0 (by omega) | assumption) tabOk rfl rfl rfl rfl rfl (by decide) ?_
           | refine o_indexsn tabOk (hne0 (by omega)) rfl rfl rfl rfl (by omega) (by omega) (by decide) ?_
           | (refine z_isbin ?_; first
           | (refine z_isb .add ?_; first
           | refine o_add rfl rfl (by omega) (by omega) (by decide) ?_)
           | (refine z_isb .lss ?_; first
           | refine o_lt rfl rfl (by decide) ?_)
           | (refine z_isb .leq ?_; first
           | refine o_le rfl rfl (by decide) ?_)
           | (refine z_isb .geq ?_; first
           | refine o_ge rfl rfl (by decide) ?_))
           | (refine z_isload ?_; first
           | (refine z_ld1 tabOk rfl rfl ?_; first
           | refine o_loads tabOk (by first | (repeat (first | exact hrd0 | apply Rds.cons)) | assumption) rfl rfl rfl (by first | exact dn_k D d hd | exact dn_n D d hd | rfl) (by decide) ?_))
           | (refine z_isstore ?_; first
           | refine o_storebv 1 tabOk rfl rfl rfl rfl rfl rfl rfl rfl ?_)
           | (refine z_iscall ?_; first
           | ((refine z_iscallf 14 ?_; refine o_callx1 Try.func14 rfl rfl rfl (drop_yes L L' hL _ _ _ _ (own_rds 1 rfl) (by omega) ha) (by decide) (by decide) fun u _ => ?_))
           | ((refine z_iscallf 15 ?_; refine o_calla Try.func15 rfl rfl rfl (rdrop_yes L L' _ _ _ _ (own_rds 3 rfl) (by omega) ha) (by decide) fun v _ => ?_)))
           | (refine z_ispick ?_; first
           | (refine o_pick1 rfl (by first | with_reducible rfl | with_reducible assumption | ((with_reducible refine decide_eq_true ?_); first | with_reducible rfl | with_reducible assumption | omega)) rfl (by decide) ?_))
           | (refine z_isbi ?_; first
           | refine o_len tabOk rfl rfl (by decide) ?_)
           | refine o_move rfl (by decide) ?_
           | refine o_assign rfl (by decide) ?_
           | refine o_extract rfl rfl (by decide) ?_))
        · skip
          repeat' (first
           | refine z_mono0ww ?_
           | ((refine z_isdst 53 ?_; refine o_loadwv rfl tabOk rfl rfl rfl List.mem_cons_self rfl (by decide) ?_))
           | (refine s_is ?_; first
           | (refine c_free1 ⟨[53, 59], []⟩ [1, 2, 3, 4, 5, 0, 6, 7, 8, 9, 10] (id := 9) mixed (by kernel_rfl) ?_)
           | (refine s_isagain ?_; first
           | (exact c_again (u.1, u.2, v.1, v.2, i + 1) ⟨by dsimp only; omega, by dsimp only; omega⟩ (by dsimp only; omega) ⟨rfl, rfl, rfl, (by dsimp only; rw [hs]; rfl), rfl, trivial⟩ (fun w h => by dsimp only; rw [hs]; exact ((h.sel 6 [2, 1, 0, 5, 3, 4] (by decide)).mask [true, true, true, true, false, false]))))
           | (refine s_isw ?_; first
           | refine c_seq ?_
           | refine c_block ?_
           | refine c_region ?_
           | refine c_skip ?_
           | (refine s_iscond ?_; first
           | (refine c_true rfl (by first | with_reducible rfl | with_reducible assumption | ((with_reducible refine decide_eq_true ?_); first | with_reducible rfl | with_reducible assumption | omega)) ?_)
           | (refine c_false rfl (by first | with_reducible rfl | with_reducible assumption | ((with_reducible refine decide_eq_false ?_); first | with_reducible assumption | omega)) ?_))))
           | (refine z_isg1 ?_; first
           | (refine z_want1 rfl rfl (by first | with_reducible rfl | with_reducible assumption | ((with_reducible refine decide_eq_true ?_); first | with_reducible rfl | with_reducible assumption | omega)) ?_)
           | (refine z_skip1 (by decide) rfl rfl (by first | with_reducible rfl | with_reducible assumption | ((with_reducible refine decide_eq_false ?_); first | with_reducible assumption | omega)) ?_))
           | (refine z_isnil ?_; first
           | refine z_list ?_)
           | (refine z_isop ?_; first
           | refine o_fields (by first | exact hne0 (by omega) | assumption) tabOk rfl rfl rfl rfl rfl (by decide) ?_
           | refine o_indexsn tabOk (hne0 (by omega)) rfl rfl rfl rfl (by omega) (by omega) (by decide) ?_
           | (refine z_isbin ?_; first
           | (refine z_isb .add ?_; first
           | refine o_add rfl rfl (by omega) (by omega) (by decide) ?_)
           | (refine z_isb .lss ?_; first
           | refine o_lt rfl rfl (by decide) ?_)
           | (refine z_isb .geq ?_; first
           | refine o_ge rfl rfl (by decide) ?_))
           | (refine z_isload ?_; first
           | (refine z_ld1 tabOk rfl rfl ?_; first
           | refine o_loads tabOk (by first | (repeat (first | exact hrd0 | apply Rds.cons)) | assumption) rfl rfl rfl (by first | exact dn_k D d hd | exact dn_n D d hd | rfl) (by decide) ?_))
           | (refine z_isstore ?_; first
           | refine o_storebv 1 tabOk rfl rfl rfl rfl rfl rfl rfl rfl ?_)
           | (refine z_iscall ?_; first
           | ((refine z_iscallf 14 ?_; refine o_callx1 Try.func14 rfl rfl rfl (drop_yes L L' hL _ _ _ _ (own_rds 1 rfl) (by omega) ha) (by decide) (by decide) fun u _ => ?_))
           | ((refine z_iscallf 15 ?_; refine o_calla Try.func15 rfl rfl rfl (rdrop_yes L L' _ _ _ _ (own_rds 3 rfl) (by omega) ha) (by decide) fun v _ => ?_)))
           | (refine z_ispick ?_; first
           | (refine o_pick1 rfl (by first | with_reducible rfl | with_reducible assumption | ((with_reducible refine decide_eq_true ?_); first | with_reducible rfl | with_reducible assumption | omega)) rfl (by decide) ?_)
           | (refine o_pick0 rfl (by first | with_reducible rfl | with_reducible assumption | ((with_reducible refine decide_eq_false ?_); first | with_reducible assumption | omega)) rfl (by decide) ?_))
           | (refine z_isbi ?_; first
           | refine o_len tabOk rfl rfl (by decide) ?_)
           | refine o_move rfl (by decide) ?_
           | refine o_assign rfl (by decide) ?_
           | refine o_extract rfl rfl (by decide) ?_))
      | none =>
        rw [dee_dn hk ha] at hs
        by_cases hk0 : 0 ≤ d.k
        · have hk3 : ¬ (d.k ≤ 3) := by omega
          repeat' (first
           | refine z_mono0w ?_
           | ((refine z_isdst 53 ?_; refine o_loadwv rfl tabOk rfl rfl rfl List.mem_cons_self rfl (by decide) ?_))
           | (refine s_is ?_; first
           | (refine c_free1 ⟨[53, 59], []⟩ [1, 2, 3, 4, 5, 0, 6, 7, 8, 9, 10] (id := 9) mixed (by kernel_rfl) ?_)
           | (refine s_isagain ?_; first
           | (exact c_again (A, c, B, e, i + 1) ⟨by dsimp only; omega, by dsimp only; omega⟩ (by dsimp only; omega) ⟨rfl, rfl, rfl, (by dsimp only; rw [hs]; rfl), rfl, trivial⟩ (fun w h => by dsimp only; rw [hs]; exact h)))
           | (refine s_isw ?_; first
           | refine c_seq ?_
           | refine c_block ?_
           | refine c_region ?_
           | refine c_skip ?_
           | (refine s_iscond ?_; first
           | (refine c_true rfl (by first | with_reducible rfl | with_reducible assumption | ((with_reducible refine decide_eq_true ?_); first | with_reducible rfl | with_reducible assumption | omega)) ?_)
           | (refine c_false rfl (by first | with_reducible rfl | with_reducible assumption | ((with_reducible refine decide_eq_false ?_); first | with_reducible assumption | omega)) ?_))))
           | (refine z_isg1 ?_; first
           | (refine z_want1 rfl rfl (by first | with_reducible rfl | with_reducible assumption | ((with_reducible refine decide_eq_true ?_); first | with_reducible rfl | with_reducible assumption | omega)) ?_))
           | (refine z_isnil ?_; first
           | refine z_list ?_)
           | (refine z_isop ?_; first
           | refine o_fields (by first | exact hne0 (by omega) | assumption) tabOk rfl rfl rfl rfl rfl (by decide) ?_
           | refine o_indexsn tabOk (hne0 (by omega)) rfl rfl rfl rfl (by omega) (by omega) (by decide) ?_
           | (refine z_isbin ?_; first
           | (refine z_isb .add ?_; first
           | refine o_add rfl rfl (by omega) (by omega) (by decide) ?_)
           | (refine z_isb .lss ?_; first
           | refine o_lt rfl rfl (by decide) ?_)
           | (refine z_isb .leq ?_; first
           | refine o_le rfl rfl (by decide) ?_)
           | (refine z_isb .geq ?_; first
           | refine o_ge rfl rfl (by decide) ?_))
           | (refine z_isload ?_; first
           | (refine z_ld1 tabOk rfl rfl ?_; first
           | refine o_loads tabOk (by first | (repeat (first | exact hrd0 | apply Rds.cons)) | assumption) rfl rfl rfl (by first | exact dn_k D d hd | exact dn_n D d hd | rfl) (by decide) ?_))
           | (refine z_isstore ?_; first
           | refine o_storebv 0 tabOk rfl rfl rfl rfl rfl rfl rfl rfl ?_)
           | (refine z_iscall ?_; first
           | ((refine z_iscallf 14 ?_; refine o_callx0 Try.func14 rfl rfl rfl (drop_no L hL _ _ _ _ (own_rds 1 rfl) (by omega) ha) (by decide) (by decide) ?_))
           | ((refine z_iscallf 15 ?_; refine o_calla Try.func15 rfl rfl rfl (rdrop_no L _ _ _ _ (own_rds 2 rfl) (by omega) ha) (by decide) fun v _ => ?_)))
           | (refine z_ispick ?_; first
           | (refine o_pick1 rfl (by first | with_reducible rfl | with_reducible assumption | ((with_reducible refine decide_eq_true ?_); first | with_reducible rfl | with_reducible assumption | omega)) rfl (by decide) ?_))
           | (refine z_isbi ?_; first
           | refine o_len tabOk rfl rfl (by decide) ?_)
           | refine o_move rfl (by decide) ?_
           | refine o_assign rfl (by decide) ?_
           | refine o_extract rfl rfl (by decide) ?_))
        · skip
          repeat' (first
           | refine z_mono0w ?_
           | ((refine z_isdst 53 ?_; refine o_loadwv rfl tabOk rfl rfl rfl List.mem_cons_self rfl (by decide) ?_))
           | (refine s_is ?_; first
           | (refine c_free1 ⟨[53, 59], []⟩ [1, 2, 3, 4, 5, 0, 6, 7, 8, 9, 10] (id := 9) mixed (by kernel_rfl) ?_)
           | (refine s_isagain ?_; first
           | (exact c_again (A, c, B, e, i + 1) ⟨by dsimp only; omega, by dsimp only; omega⟩ (by dsimp only; omega) ⟨rfl, rfl, rfl, (by dsimp only; rw [hs]; rfl), rfl, trivial⟩ (fun w h => by dsimp only; rw [hs]; exact h)))
           | (refine s_isw ?_; first
           | refine c_seq ?_
           | refine c_block ?_
           | refine c_region ?_
           | refine c_skip ?_
           | (refine s_iscond ?_; first
           | (refine c_true rfl (by first | with_reducible rfl | with_reducible assumption | ((with_reducible refine decide_eq_true ?_); first | with_reducible rfl | with_reducible assumption | omega)) ?_)
           | (refine c_false rfl (by first | with_reducible rfl | with_reducible assumption | ((with_reducible refine decide_eq_false ?_); first | with_reducible assumption | omega)) ?_))))
           | (refine z_isg1 ?_; first
           | (refine z_want1 rfl rfl (by first | with_reducible rfl | with_reducible assumption | ((with_reducible refine decide_eq_true ?_); first | with_reducible rfl | with_reducible assumption | omega)) ?_)
           | (refine z_skip1 (by decide) rfl rfl (by first | with_reducible rfl | with_reducible assumption | ((with_reducible refine decide_eq_false ?_); first | with_reducible assumption | omega)) ?_))
           | (refine z_isnil ?_; first
           | refine z_list ?_)
           | (refine z_isop ?_; first
           | refine o_fields (by first | exact hne0 (by omega) | assumption) tabOk rfl rfl rfl rfl rfl (by decide) ?_
           | refine o_indexsn tabOk (hne0 (by omega)) rfl rfl rfl rfl (by omega) (by omega) (by decide) ?_
           | (refine z_isbin ?_; first
           | (refine z_isb .add ?_; first
           | refine o_add rfl rfl (by omega) (by omega) (by decide) ?_)
           | (refine z_isb .lss ?_; first
           | refine o_lt rfl rfl (by decide) ?_)
           | (refine z_isb .geq ?_; first
           | refine o_ge rfl rfl (by decide) ?_))
           | (refine z_isload ?_; first
           | (refine z_ld1 tabOk rfl rfl ?_; first
           | refine o_loads tabOk (by first | (repeat (first | exact hrd0 | apply Rds.cons)) | assumption) rfl rfl rfl (by first | exact dn_k D d hd | exact dn_n D d hd | rfl) (by decide) ?_))
           | (refine z_isstore ?_; first
           | refine o_storebv 0 tabOk rfl rfl rfl rfl rfl rfl rfl rfl ?_)
           | (refine z_iscall ?_; first
           | ((refine z_iscallf 14 ?_; refine o_callx0 Try.func14 rfl rfl rfl (drop_no L hL _ _ _ _ (own_rds 1 rfl) (by omega) ha) (by decide) (by decide) ?_))
           | ((refine z_iscallf 15 ?_; refine o_calla Try.func15 rfl rfl rfl (rdrop_no L _ _ _ _ (own_rds 2 rfl) (by omega) ha) (by decide) fun v _ => ?_)))
           | (refine z_ispick ?_; first
           | (refine o_pick1 rfl (by first | with_reducible rfl | with_reducible assumption | ((with_reducible refine decide_eq_true ?_); first | with_reducible rfl | with_reducible assumption | omega)) rfl (by decide) ?_)
           | (refine o_pick0 rfl (by first | with_reducible rfl | with_reducible assumption | ((with_reducible refine decide_eq_false ?_); first | with_reducible assumption | omega)) rfl (by decide) ?_))
           | (refine z_isbi ?_; first
           | refine o_len tabOk rfl rfl (by decide) ?_)
           | refine o_move rfl (by decide) ?_
           | refine o_assign rfl (by decide) ?_
           | refine o_extract rfl rfl (by decide) ?_))
  · have hm := mkc_end ⟨hi, hi4⟩ hlt
    rw [hm]
    by_cases hlt0 : i < D.length
    · skip
      repeat' (first
       | (refine s_is ?_; first
       | (refine s_isret ?_; first
       | exact f_r2 rfl (res_c tabOk rfl rfl rfl 3 rfl rfl) (res_t rfl) (A, c, B, e) trivial rfl (fun w h => ((h.sel 4 [1, 2, 0, 3] (by decide)).mask [true, true, false, false])))
       | (refine s_isw ?_; first
       | refine c_seq ?_
       | refine c_region ?_
       | refine c_ret ?_
       | refine c_exit ?_
       | (refine s_iscond ?_; first
       | (refine c_false rfl (by first | with_reducible rfl | with_reducible assumption | ((with_reducible refine decide_eq_false ?_); first | with_reducible assumption | omega)) ?_))))
       | (refine z_isg1 ?_; first
       | (refine z_want1 rfl rfl (by first | with_reducible rfl | with_reducible assumption | ((with_reducible refine decide_eq_true ?_); first | with_reducible rfl | with_reducible assumption | omega)) ?_))
       | (refine z_isnil ?_; first
       | refine z_list ?_)
       | (refine z_isop ?_; first
       | (refine z_isbin ?_; first
       | (refine z_isb .lss ?_; first
       | refine o_lt rfl rfl (by decide) ?_))
       | (refine z_isload ?_; first
       | (refine z_ldw tabOk rfl rfl ?_; first
       | (refine o_loadwm tabOk rfl rfl rfl (by repeat' (first | exact List.mem_cons_self | apply List.mem_cons_of_mem)) (by first | rfl | exact il_len _ | exact dn_len _ | (simp only [il_len, dn_len]; done) | rfl) (by decide) ?_)))
       | (refine z_isstore ?_; first
       | (refine z_stw rfl ?_; first
       | ((refine z_sti 3 rfl rfl ?_; refine o_storeb3 rfl tabOk rfl rfl rfl (by first | rfl | exact il_len _ | exact dn_len _ | (simp only [il_len, dn_len]; done) | rfl) (by first | rfl | exact il_one _ | rfl) (by first | rfl | exact il_len _ | exact dn_len _ | (simp only [il_len, dn_len]; done) | rfl) ?_))))
       | (refine z_ispick ?_; first
       | (refine o_pick1 rfl (by first | with_reducible rfl | with_reducible assumption | ((with_reducible refine decide_eq_true ?_); first | with_reducible rfl | with_reducible assumption | omega)) rfl (by decide) ?_))
       | (refine z_isbi ?_; first
       | refine o_len tabOk rfl rfl (by decide) ?_)
       | refine o_move rfl (by decide) ?_
       | refine o_assign rfl (by decide) ?_))
    · skip
      repeat' (first
       | (refine s_is ?_; first
       | (refine s_isret ?_; first
       | exact f_r2 rfl (res_c tabOk rfl rfl rfl 3 rfl rfl) (res_t rfl) (A, c, B, e) trivial rfl (fun w h => ((h.sel 4 [1, 2, 0, 3] (by decide)).mask [true, true, false, false])))
       | (refine s_isw ?_; first
       | refine c_seq ?_
       | refine c_region ?_
       | refine c_ret ?_
       | refine c_exit ?_
       | (refine s_iscond ?_; first
       | (refine c_false rfl (by first | with_reducible rfl | with_reducible assumption | ((with_reducible refine decide_eq_false ?_); first | with_reducible assumption | omega)) ?_))))
       | (refine z_isg1 ?_; first
       | (refine z_skip1 (by decide) rfl rfl (by first | with_reducible rfl | with_reducible assumption | ((with_reducible refine decide_eq_false ?_); first | with_reducible assumption | omega)) ?_))
       | (refine z_isnil ?_; first
       | refine z_list ?_)
       | (refine z_isop ?_; first
       | (refine z_isbin ?_; first
       | (refine z_isb .lss ?_; first
       | refine o_lt rfl rfl (by decide) ?_))
       | (refine z_isload ?_; first
       | (refine z_ldw tabOk rfl rfl ?_; first
       | (refine o_loadwm tabOk rfl rfl rfl (by repeat' (first | exact List.mem_cons_self | apply List.mem_cons_of_mem)) (by first | rfl | exact il_len _ | exact dn_len _ | (simp only [il_len, dn_len]; done) | rfl) (by decide) ?_)))
       | (refine z_isstore ?_; first
       | (refine z_stw rfl ?_; first
       | ((refine z_sti 3 rfl rfl ?_; refine o_storeb3 rfl tabOk rfl rfl rfl (by first | rfl | exact il_len _ | exact dn_len _ | (simp only [il_len, dn_len]; done) | rfl) (by first | rfl | exact il_one _ | rfl) (by first | rfl | exact il_len _ | exact dn_len _ | (simp only [il_len, dn_len]; done) | rfl) ?_))))
       | (refine z_ispick ?_; first
       | (refine o_pick0 rfl (by first | with_reducible rfl | with_reducible assumption | ((with_reducible refine decide_eq_false ?_); first | with_reducible assumption | omega)) rfl (by decide) ?_))
       | (refine z_isbi ?_; first
       | refine o_len tabOk rfl rfl (by decide) ?_)
       | refine o_move rfl (by decide) ?_
       | refine o_assign rfl (by decide) ?_))
set_option maxHeartbeats 4000000 in
theorem nsame_c (L : List Int) (hL : Nm L) (A B : Option Addr) (c e : Nat) (fr : List Chunk) (hrd : Rds fr A (il L)) (hrd2 : Rds fr B (il L)) (hx : L.length ≤ 512) : Does Try.prog 11 [.agg #[.slice A L.length c], .slice B L.length e] fr (fun _ : Unit => True) (fun _ => .bool true) (fun _ => fr) := by
  intro w hw
  have hne2 := il_ne hrd2 hw
  refine f_enter Try.func11 rfl Try.ntmps11 rfl hw ?_
  repeat' (first
   | (refine s_is ?_; first
   | (refine s_isw ?_; first
   | (refine s_isloop ?_; first
   | ((refine c_loop (X := Nat) (fun k => k ≤ L.length) (fun k => [(1, .slice B L.length e), (2, .pointer (some ⟨g, 0, none⟩)), (5, .int .i64 k)]) (fun _ => cells g 27 [.slice A L.length c] :: fr) (fun k => L.length - k) 0 (Nat.zero_le _) ⟨rfl, rfl, rfl, trivial⟩ (fun w h => ((h.sel 4 [3, 0, 1, 2] (by decide)).mask [true, false, false, false])) (fun k hk => ?_); refine hold ?_)))
   | refine c_seq ?_
   | refine c_block ?_
   | refine c_region ?_
   | refine c_skip ?_
   | (refine s_iscond ?_; first
   | (refine c_false rfl (by first | with_reducible rfl | with_reducible assumption | ((with_reducible refine decide_eq_false ?_); first | with_reducible assumption | omega)) ?_))))
   | (refine z_isg0 ?_; first
   | (refine z_want0 rfl rfl (by first | (simp only [Bool.not_eq_false', decide_eq_true_eq]; omega) | (with_reducible assumption) | (rw [decide_eq_false] <;> (first | omega | with_reducible rfl)) | (rw [decide_eq_true] <;> (first | omega | with_reducible rfl)) | (simp; done) | (simp; omega)) ?_))
   | (refine z_isnil ?_; first
   | refine z_list ?_)
   | (refine z_isop ?_; first
   | refine o_boxa (vs := [.slice A L.length c]) rfl rfl (by decide) fun g => ?_
   | (refine z_isbin ?_; first
   | (refine z_isb .neq ?_; first
   | refine o_ne rfl rfl (by decide) ?_))
   | (refine z_isload ?_; first
   | (refine z_ldw tabOk rfl rfl ?_; first
   | (refine o_loadwm tabOk rfl rfl rfl (by repeat' (first | exact List.mem_cons_self | apply List.mem_cons_of_mem)) (by first | rfl | exact il_len _ | exact dn_len _ | (simp only [il_len, dn_len]; done) | rfl) (by decide) ?_)))
   | (refine z_iscall ?_; first
   | ((refine z_iscallf 40 ?_; refine o_calla Try.func40 rfl rfl rfl (names_c L _ _ _ (Rds.cons _ hrd) (by omega)) (by decide) fun x _ => ?_))
   | ((refine z_iscallf 41 ?_; refine z_isdst 11 ?_; refine o_calla Try.func41 rfl rfl rfl (rnames_c L hL _ _ _ (Rds.cons _ (Rds.cons _ hrd2)) (by omega)) (by decide) fun y _ => ?_))
   | ((refine z_iscallf 41 ?_; refine z_isdst 18 ?_; refine o_calla Try.func41 rfl rfl rfl (rnames_c L hL _ _ _ (Rds.cons _ (Rds.cons _ (Rds.cons _ hrd2))) (by omega)) (by decide) fun z _ => ?_))
   | ((refine z_iscallf 31 ?_; refine o_callr rfl Try.func31 rfl rfl rfl (same_c (nmN L L.length) _ _ _ _ _ (own_rds 1 rfl) (own_rds 0 rfl) (by have := nmN_le L L.length; omega)) (by decide) ?_))
   | ((refine z_iscallf 35 ?_; refine o_callr rfl Try.func35 rfl rfl rfl (tlen_c L _ _ _ (Rds.cons _ (Rds.cons _ (Rds.cons _ hrd))) (by omega)) (by decide) ?_)))
   | (refine z_ispick ?_; first
   | (refine o_pick0 rfl (by first | (simp only [Bool.not_eq_false', decide_eq_true_eq]; omega) | (with_reducible assumption) | (rw [decide_eq_false] <;> (first | omega | with_reducible rfl)) | (rw [decide_eq_true] <;> (first | omega | with_reducible rfl)) | (simp; done) | (simp; omega)) rfl (by decide) ?_))
   | (refine z_isbi ?_; first
   | refine o_len tabOk rfl rfl (by decide) ?_)
   | refine o_move rfl (by decide) ?_
   | refine o_assign rfl (by decide) ?_
   | refine o_not rfl (by decide) ?_))
  refine Hold.go ?_
  by_cases hl : k < L.length
  · have hg : gt L (k : Int) = L.getD ((k : Int)).toNat 0 := gt_in ⟨by omega, by omega⟩
    have e1 : (!(decide (0 ≤ gt L (k : Int)) == decide (0 ≤ L.getD ((k : Int)).toNat 0))) = false := by rw [hg]; simp
    by_cases h0 : 0 ≤ gt L (k : Int)
    · have e2 : gv L (k : Int) = L.getD ((k : Int)).toNat 0 := by rw [gv_yes h0, hg]
      repeat' (first
       | (refine s_is ?_; first
       | (refine s_isagain ?_; first
       | exact c_again (k + 1) (by omega) (by omega) ⟨rfl, rfl, rfl, trivial⟩ (fun w h => h))
       | (refine s_isw ?_; first
       | refine c_seq ?_
       | refine c_block ?_
       | refine c_region ?_
       | refine c_skip ?_
       | (refine s_iscond ?_; first
       | (refine c_true rfl (by first | with_reducible rfl | with_reducible assumption | ((with_reducible refine decide_eq_true ?_); first | with_reducible rfl | with_reducible assumption | omega)) ?_)
       | (refine c_false rfl (by first | with_reducible rfl | with_reducible assumption | ((with_reducible refine decide_eq_false ?_); first | with_reducible assumption | omega)) ?_))))
       | (refine z_isg1 ?_; first
       | (refine z_want1 rfl rfl (by first | with_reducible rfl | with_reducible assumption | ((with_reducible refine decide_eq_true ?_); first | with_reducible rfl | with_reducible assumption | omega)) ?_)
       | (refine z_skip1 (by decide) rfl rfl (by first | (simp only [Bool.not_eq_false', decide_eq_true_eq]; omega) | (with_reducible assumption) | (rw [decide_eq_false] <;> (first | omega | with_reducible rfl)) | (rw [decide_eq_true] <;> (first | omega | with_reducible rfl)) | (simp; done) | (simp; omega)) ?_))
       | (refine z_isg0 ?_; first
       | (refine z_want0 rfl rfl (by first | with_reducible rfl | with_reducible assumption | ((with_reducible refine decide_eq_false ?_); first | with_reducible assumption | omega)) ?_))
       | (refine z_isnil ?_; first
       | refine z_list ?_)
       | (refine z_isop ?_; first
       | (refine z_isbin ?_; first
       | (refine z_isb .add ?_; first
       | refine o_add rfl rfl (by omega) (by omega) (by decide) ?_)
       | (refine z_isb .neq ?_; first
       | refine o_ne rfl rfl (by decide) ?_
       | refine o_bne tabOk rfl rfl rfl (by decide) ?_)
       | (refine z_isb .lss ?_; first
       | refine o_lt rfl rfl (by decide) ?_)
       | (refine z_isb .geq ?_; first
       | refine o_ge rfl rfl (by decide) ?_))
       | (refine z_isload ?_; first
       | (refine z_ld1 tabOk rfl rfl ?_; first
       | refine o_loads tabOk (by first | exact own_rds 0 rfl | exact Rds.cons _ hrd2 | exact hrd2 | assumption) rfl rfl rfl (by first | exact il_at _ (by omega) | rfl) (by decide) ?_)
       | (refine z_ldw tabOk rfl rfl ?_; first
       | (refine o_loadwm tabOk rfl rfl rfl (by repeat' (first | exact List.mem_cons_self | apply List.mem_cons_of_mem)) (by first | rfl | exact il_len _ | exact dn_len _ | (simp only [il_len, dn_len]; done) | rfl) (by decide) ?_)))
       | (refine z_iscall ?_; first
       | ((refine z_iscallf 42 ?_; refine o_callr rfl Try.func42 rfl rfl rfl (get_c L hL _ _ _ _ (Rds.cons _ hrd) (by omega)) (by decide) ?_)))
       | (refine z_ispick ?_; first
       | (refine o_pick1 rfl (by first | with_reducible rfl | with_reducible assumption | ((with_reducible refine decide_eq_true ?_); first | with_reducible rfl | with_reducible assumption | omega)) rfl (by decide) ?_)
       | (refine o_pick0 rfl (by first | with_reducible rfl | with_reducible assumption | ((with_reducible refine decide_eq_false ?_); first | with_reducible assumption | omega)) rfl (by decide) ?_)
       | (refine o_pick0 rfl (by first | (simp only [Bool.not_eq_false', decide_eq_true_eq]; omega) | (with_reducible assumption) | (rw [decide_eq_false] <;> (first | omega | with_reducible rfl)) | (rw [decide_eq_true] <;> (first | omega | with_reducible rfl)) | (simp; done) | (simp; omega)) rfl (by decide) ?_))
       | (refine z_isix ?_; first
       | refine o_indexs1 tabOk (by first | exact hne2 (by omega) | assumption) rfl rfl rfl rfl (by omega) (by omega) (by decide) ?_)
       | (refine z_isbi ?_; first
       | refine o_len tabOk rfl rfl (by decide) ?_)
       | refine o_move rfl (by decide) ?_
       | refine o_assign rfl (by decide) ?_
       | refine o_extract rfl rfl (by decide) ?_
       | refine o_not rfl (by decide) ?_))
    · have hv := hL.v k hl
      have hg1 : gt L (k : Int) = -1 := by rw [Int.toNat_natCast] at hg; omega
      have e2 := gv_no hg1
      repeat' (first
       | (refine s_is ?_; first
       | (refine s_isagain ?_; first
       | exact c_again (k + 1) (by omega) (by omega) ⟨rfl, rfl, rfl, trivial⟩ (fun w h => h))
       | (refine s_isw ?_; first
       | refine c_seq ?_
       | refine c_block ?_
       | refine c_region ?_
       | refine c_skip ?_
       | (refine s_iscond ?_; first
       | (refine c_true rfl (by first | with_reducible rfl | with_reducible assumption | ((with_reducible refine decide_eq_true ?_); first | with_reducible rfl | with_reducible assumption | omega)) ?_)
       | (refine c_false rfl (by first | with_reducible rfl | with_reducible assumption | ((with_reducible refine decide_eq_false ?_); first | with_reducible assumption | omega)) ?_))))
       | (refine z_isg1 ?_; first
       | (refine z_skip1 (by decide) rfl rfl (by first | with_reducible rfl | with_reducible assumption | ((with_reducible refine decide_eq_false ?_); first | with_reducible assumption | omega)) ?_)
       | (refine z_want1 rfl rfl (by first | (simp only [Bool.not_eq_true', decide_eq_false_iff_not]; omega) | (with_reducible assumption) | (rw [decide_eq_false] <;> (first | omega | with_reducible rfl)) | (rw [decide_eq_true] <;> (first | omega | with_reducible rfl)) | (simp; done) | (simp; omega)) ?_))
       | (refine z_isg0 ?_; first
       | (refine z_want0 rfl rfl (by first | with_reducible rfl | with_reducible assumption | ((with_reducible refine decide_eq_false ?_); first | with_reducible assumption | omega)) ?_))
       | (refine z_isnil ?_; first
       | refine z_list ?_)
       | (refine z_isop ?_; first
       | (refine z_isbin ?_; first
       | (refine z_isb .add ?_; first
       | refine o_add rfl rfl (by omega) (by omega) (by decide) ?_)
       | (refine z_isb .neq ?_; first
       | refine o_ne rfl rfl (by decide) ?_
       | refine o_bne tabOk rfl rfl rfl (by decide) ?_)
       | (refine z_isb .lss ?_; first
       | refine o_lt rfl rfl (by decide) ?_)
       | (refine z_isb .geq ?_; first
       | refine o_ge rfl rfl (by decide) ?_))
       | (refine z_isload ?_; first
       | (refine z_ld1 tabOk rfl rfl ?_; first
       | refine o_loads tabOk (by first | exact own_rds 0 rfl | exact Rds.cons _ hrd2 | exact hrd2 | assumption) rfl rfl rfl (by first | exact il_at _ (by omega) | rfl) (by decide) ?_)
       | (refine z_ldw tabOk rfl rfl ?_; first
       | (refine o_loadwm tabOk rfl rfl rfl (by repeat' (first | exact List.mem_cons_self | apply List.mem_cons_of_mem)) (by first | rfl | exact il_len _ | exact dn_len _ | (simp only [il_len, dn_len]; done) | rfl) (by decide) ?_)))
       | (refine z_iscall ?_; first
       | ((refine z_iscallf 42 ?_; refine o_callr rfl Try.func42 rfl rfl rfl (get_c L hL _ _ _ _ (Rds.cons _ hrd) (by omega)) (by decide) ?_)))
       | (refine z_ispick ?_; first
       | (refine o_pick0 rfl (by first | with_reducible rfl | with_reducible assumption | ((with_reducible refine decide_eq_false ?_); first | with_reducible assumption | omega)) rfl (by decide) ?_)
       | (refine o_pick1 rfl (by first | (simp only [Bool.not_eq_true', decide_eq_false_iff_not]; omega) | (with_reducible assumption) | (rw [decide_eq_false] <;> (first | omega | with_reducible rfl)) | (rw [decide_eq_true] <;> (first | omega | with_reducible rfl)) | (simp; done) | (simp; omega)) rfl (by decide) ?_))
       | (refine z_isix ?_; first
       | refine o_indexs1 tabOk (by first | exact hne2 (by omega) | assumption) rfl rfl rfl rfl (by omega) (by omega) (by decide) ?_)
       | (refine z_isbi ?_; first
       | refine o_len tabOk rfl rfl (by decide) ?_)
       | refine o_move rfl (by decide) ?_
       | refine o_assign rfl (by decide) ?_
       | refine o_extract rfl rfl (by decide) ?_
       | refine o_not rfl (by decide) ?_))
  · obtain rfl : k = L.length := by omega
    repeat' (first
     | (refine s_is ?_; first
     | (refine s_isret ?_; first
     | exact f_r1 rfl (res_t rfl) () trivial rfl (fun w h => ((h.sel 1 [0] (by decide)).mask [false])))
     | (refine s_isw ?_; first
     | refine c_seq ?_
     | refine c_region ?_
     | refine c_ret ?_
     | refine c_exit ?_
     | (refine s_iscond ?_; first
     | (refine c_false rfl (by first | with_reducible rfl | with_reducible assumption | ((with_reducible refine decide_eq_false ?_); first | with_reducible assumption | omega)) ?_))))
     | (refine z_isnil ?_; first
     | refine z_list ?_)
     | (refine z_isop ?_; first
     | (refine z_isbin ?_; first
     | (refine z_isb .lss ?_; first
     | refine o_lt rfl rfl (by decide) ?_))
     | (refine z_isbi ?_; first
     | refine o_len tabOk rfl rfl (by decide) ?_)
     | refine o_move rfl (by decide) ?_
     | refine o_assign rfl (by decide) ?_))
theorem rds_nil (fr : List Chunk) : Rds fr none (il []) := by rw [il_nil]; exact Rds.nil _ _
theorem aw1 : addL [] 7 = some ([7], 0) := by decide +kernel
theorem aw2 : addL [7] 9 = some ([7, 9], 1) := by decide +kernel
theorem aw3 : drL [7, 9] 0 = some [-1, 9] := by decide +kernel
theorem aw4 : addL [-1, 9] 5 = some ([5, 9], 0) := by decide +kernel
theorem aw5 : gv [5, 9] 1 = 9 := by decide +kernel
theorem aw6 : gt [5, 9] 1 = 9 := by decide +kernel
theorem aw7 : Nm [7, 9] := ⟨fun j h => by
  have : j = 0 ∨ j = 1 := by simp at h; omega
  rcases this with rfl | rfl <;> decide⟩
theorem aw8 : Nm [5, 9] := ⟨fun j h => by
  have : j = 0 ∨ j = 1 := by simp at h; omega
  rcases this with rfl | rfl <;> decide⟩
set_option maxHeartbeats 4000000 in
theorem nawake_p : Pf Try.prog 18 [] (.bool true) := by
  intro w hw
  have h1 := aw5
  have h2 : (0 : Int) ≤ gt [5, 9] 1 := by rw [aw6]; decide
  refine f_enter Try.func18 rfl Try.ntmps18 rfl hw ?_
  repeat' (first
   | ((refine z_isdst 8 ?_; refine o_calla Try.func12 rfl rfl rfl (add_yes [] [7] 0 none 0 7 _ (rds_nil _) (by decide) aw1) (by decide) fun a _ => ?_))
   | ((refine z_isdst 14 ?_; refine o_calla Try.func12 rfl rfl rfl (add_yes [7] [7, 9] 1 _ _ 9 _ (own_rds 0 rfl) (by decide) aw2) (by decide) fun b _ => ?_))
   | ((refine z_isdst 20 ?_; refine o_calla Try.func14 rfl rfl rfl (drop_yes [7, 9] [-1, 9] aw7 _ _ 0 _ (own_rds 0 rfl) (by decide) aw3) (by decide) fun c _ => ?_))
   | ((refine z_isdst 25 ?_; refine o_calla Try.func12 rfl rfl rfl (add_yes [-1, 9] [5, 9] 0 _ _ 5 _ (own_rds 0 rfl) (by decide) aw4) (by decide) fun d _ => ?_))
   | ((refine z_isdst 31 ?_; refine o_callr rfl Try.func42 rfl rfl rfl (get_c [5, 9] aw8 _ _ 1 _ (own_rds 0 rfl) (by decide)) (by decide) ?_))
   | (refine s_is ?_; first
   | (refine s_isret ?_; first
   | (exact p_r1 rfl (res_t (by rw [h1]; rfl))))
   | (refine s_isw ?_; first
   | refine c_seq ?_
   | refine c_region ?_
   | refine c_ret ?_))
   | (refine z_isg1 ?_; first
   | (refine z_want1 rfl rfl (by first | with_reducible rfl | with_reducible assumption | ((with_reducible refine decide_eq_true ?_); first | with_reducible rfl | with_reducible assumption | omega)) ?_))
   | (refine z_isnil ?_; first
   | refine z_list ?_)
   | (refine z_isop ?_; first
   | refine o_alloca (e := 27) (vs := [.slice none 0 0]) rfl (by kernel_rfl) (by decide) fun g => ?_
   | (refine z_isbin ?_; first
   | (refine z_isb .eql ?_; first
   | refine o_eq rfl rfl (by decide) ?_))
   | (refine z_isload ?_; first
   | (refine z_ldw tabOk rfl rfl ?_; first
   | (refine o_loadwm tabOk rfl rfl rfl (by repeat' (first | exact List.mem_cons_self | apply List.mem_cons_of_mem)) (by first | rfl | exact il_len _ | exact dn_len _ | (simp only [il_len, dn_len]; done) | rfl) (by decide) ?_)))
   | (refine z_isstore ?_; first
   | (refine z_stw rfl ?_; first
   | ((refine z_sti 1 rfl rfl ?_; refine o_storeb1 rfl tabOk rfl rfl rfl (by first | rfl | exact il_len _ | exact dn_len _ | (simp only [il_len, dn_len]; done) | rfl) (by first | rfl | exact il_one _ | rfl) (by first | rfl | exact il_len _ | exact dn_len _ | (simp only [il_len, dn_len]; done) | rfl) ?_))
   | ((refine z_sti 2 rfl rfl ?_; refine o_storeb2 rfl tabOk rfl rfl rfl (by first | rfl | exact il_len _ | exact dn_len _ | (simp only [il_len, dn_len]; done) | rfl) (by first | rfl | exact il_one _ | rfl) (by first | rfl | exact il_len _ | exact dn_len _ | (simp only [il_len, dn_len]; done) | rfl) ?_))
   | ((refine z_sti 3 rfl rfl ?_; refine o_storeb3 rfl tabOk rfl rfl rfl (by first | rfl | exact il_len _ | exact dn_len _ | (simp only [il_len, dn_len]; done) | rfl) (by first | rfl | exact il_one _ | rfl) (by first | rfl | exact il_len _ | exact dn_len _ | (simp only [il_len, dn_len]; done) | rfl) ?_))
   | ((refine z_sti 4 rfl rfl ?_; refine o_storeb4 rfl tabOk rfl rfl rfl (by first | rfl | exact il_len _ | exact dn_len _ | (simp only [il_len, dn_len]; done) | rfl) (by first | rfl | exact il_one _ | rfl) (by first | rfl | exact il_len _ | exact dn_len _ | (simp only [il_len, dn_len]; done) | rfl) ?_))))
   | (refine z_ispick ?_; first
   | (refine o_pick1 rfl (by first | with_reducible rfl | with_reducible assumption | ((with_reducible refine decide_eq_true ?_); first | with_reducible rfl | with_reducible assumption | omega)) rfl (by decide) ?_))
   | refine o_move rfl (by decide) ?_
   | refine o_assign rfl (by decide) ?_
   | refine o_extract rfl rfl (by decide) ?_))
end Go.Proofs.Ytjjhlkjnjbagfaa
