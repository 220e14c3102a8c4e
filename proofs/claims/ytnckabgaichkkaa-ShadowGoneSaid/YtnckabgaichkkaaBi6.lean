/-
Bind: Empty, Release.
-/
import Derived.Test.YtnckabgaichkkaaBi5
import Derived.Test.YtnckabgaichkkaaBx3
namespace Go.Proofs.Ytnckabgaichkkaa
set_option linter.unusedVariables false
set_option linter.unusedSimpArgs false
open Eng
/-- Some places are emptied. -/
def dls (M : Mp) (L : List (Int × Int)) : Mp := fun a c => if (a, c) ∈ L then none else M a c
theorem dls_nil (M : Mp) : dls M [] = M := by
  funext a c
  unfold dls
  rw [if_neg (fun e => by cases e)]
theorem dls_add (M : Mp) (L : List (Int × Int)) (s p : Int) : delM (dls M L) s p = dls M (L ++ [(s, p)]) := by
  funext a c
  unfold delM dls
  by_cases e : a = s ∧ c = p
  · rw [if_pos e, if_pos (by rw [e.1, e.2]; simp)]
  · rw [if_neg e]
    by_cases e2 : (a, c) ∈ L
    · rw [if_pos e2, if_pos (List.mem_append_left _ e2)]
    · rw [if_neg e2, if_neg fun e3 => ?_]
      rcases List.mem_append.1 e3 with e3 | e3
      · exact e2 e3
      · rw [List.mem_singleton] at e3
        cases e3; exact e ⟨rfl, rfl⟩
theorem take_add {α : Type} {L : List α} {k : Nat} (h : k < L.length) : L.take k ++ [L[k]] = L.take (k + 1) := (List.take_succ_eq_append_getElem h).symm
theorem WM.dls {M : Mp} (h : WM M) (L : List (Int × Int)) : WM (Go.Proofs.Ytnckabgaichkkaa.dls M L) := fun a c hac => by
  unfold Go.Proofs.Ytnckabgaichkkaa.dls at hac
  split at hac
  · exact absurd rfl hac
  · exact h a c hac
theorem dls_rm {M : Mp} (hM : WM M) {L : List (Int × Int)} {g : Nat → Bool} (h : ∀ a c, M a c ≠ none → ((a, c) ∈ L ↔ g (a * 32 + c).toNat = true)) : dls M L = rmM M g 2048 := by
  funext a c
  unfold dls rmM
  by_cases e : M a c = none
  · split <;> split <;> first | rfl | exact e | exact e.symm
  · have hi := hM a c e
    have h2 := h a c e
    by_cases e2 : (a, c) ∈ L
    · rw [if_pos e2, if_pos ⟨hi.1, hi.2.2.1, hi.2.2.2, by omega, h2.1 e2⟩]
    · rw [if_neg e2, if_neg fun e3 => e2 (h2.2 e3.2.2.2.2)]
def row (M : Mp) (s : Int) : List (Int × Int) := (pgs M s).map fun p => (s, p)
theorem row_len (M : Mp) (s : Int) : (row M s).length = (pgs M s).length := List.length_map _
theorem row_at {M : Mp} {s : Int} {k : Nat} (h : k < (pgs M s).length) : (row M s)[k]'(by rw [row_len]; exact h) = (s, (pgs M s)[k]) := by simp [row]
theorem row_mem {M : Mp} (hM : WM M) {s a c : Int} : (a, c) ∈ row M s ↔ a = s ∧ M s c ≠ none := by
  unfold row
  rw [List.mem_map]
  constructor
  · rintro ⟨p, hp, e⟩
    cases e
    exact ⟨rfl, (pgs_mem hM).1 hp⟩
  · rintro ⟨rfl, h⟩
    exact ⟨c, (pgs_mem hM).2 h, rfl⟩
theorem dmf_at {M : Mp} {sp pg fm a c : Int} (h : 0 ≤ a ∧ 0 ≤ c ∧ c < 32) : dmf M sp pg fm (a * 32 + c).toNat = (onM M a c && mine M sp pg fm a c) := by
  have := dmf_sp (M := M) (sp := sp) (pg := pg) (fm := fm) (s := a.toNat) (p := c.toNat) (by omega)
  rw [show (a * 32 + c).toNat = a.toNat * 32 + c.toNat by omega, this, show ((a.toNat : Nat) : Int) = a by omega, show ((c.toNat : Nat) : Int) = c by omega]
theorem row_rm {M : Mp} (hM : WM M) {s : Int} (hs : 0 ≤ s) : dls M (row M s) = rmM M (dmf M s (-1) 0) 2048 := dls_rm hM fun a c h => by
  have hi := hM a c h
  rw [row_mem hM, dmf_at ⟨hi.1, hi.2.2.1, hi.2.2.2⟩, onM_iff.2 h, Bool.true_and]
  unfold mine
  rw [if_neg (by omega), Bool.and_eq_true, decide_eq_true_eq, decide_eq_true (show (-1 : Int) < 0 by decide), Bool.true_or]
  constructor
  · rintro ⟨rfl, _⟩; exact ⟨rfl, rfl⟩
  · rintro ⟨rfl, _⟩; exact ⟨rfl, h⟩
theorem row_cnt {M : Mp} (hM : WM M) {s : Int} (hs : 0 ≤ s) : (pgs M s).length = (al (dmf M s (-1) 0) 2048).length := by
  have hp : (row M s).Perm (prs (dmf M s (-1) 0) 2048) := perm_of_nodup (by
      unfold row
      rw [List.Nodup, List.pairwise_map]
      exact (al_nodup _ _).imp fun {a b} h e => by cases e; exact h rfl) (prs_nodup _ _) fun x => by
    obtain ⟨a, c⟩ := x
    rw [row_mem hM, prs_mem]
    constructor
    · rintro ⟨rfl, h⟩
      have hi := hM a c h
      refine ⟨hi.1, hi.2.2.1, hi.2.2.2, by omega, ?_⟩
      rw [dmf_at ⟨hi.1, hi.2.2.1, hi.2.2.2⟩, onM_iff.2 h, Bool.true_and]
      unfold mine
      rw [if_neg (by omega), decide_eq_true (show (-1 : Int) < 0 by decide), decide_eq_true rfl]; rfl
    · rintro ⟨h0, h1, h2, h3, h4⟩
      rw [dmf_at ⟨h0, h1, h2⟩, Bool.and_eq_true] at h4
      have h5 := h4.2
      unfold mine at h5
      rw [if_neg (by omega), Bool.and_eq_true, decide_eq_true_eq] at h5
      have := h5.1
      subst this
      exact ⟨rfl, onM_iff.1 h4.1⟩
  have := hp.length_eq
  rw [row_len] at this
  unfold prs at this
  rw [List.length_map] at this
  exact this
theorem dmf_usf (M : Mp) (pg f : Int) : dmf M (-1) pg f = usf M f := by
  funext k
  unfold dmf usf mine
  rw [if_pos (by decide)]
theorem uss_mem {M : Mp} (hM : WM M) {f a c : Int} : (a, c) ∈ uss M f ↔ (M a c ≠ none ∧ fM M a c = f) := by
  unfold uss
  rw [prs_mem]
  constructor
  · rintro ⟨h0, h1, h2, h3, h4⟩
    rw [show (a * 32 + c).toNat = a.toNat * 32 + c.toNat by omega] at h4
    have := (usf_iff a.toNat c.toNat (by omega) (by omega)).1 h4
    rwa [show ((a.toNat : Nat) : Int) = a by omega, show ((c.toNat : Nat) : Int) = c by omega] at this
  · rintro ⟨h1, h2⟩
    have hi := hM a c h1
    refine ⟨hi.1, hi.2.2.1, hi.2.2.2, by omega, ?_⟩
    rw [show (a * 32 + c).toNat = a.toNat * 32 + c.toNat by omega]
    refine (usf_iff a.toNat c.toNat (by omega) (by omega)).2 ?_
    rw [show ((a.toNat : Nat) : Int) = a by omega, show ((c.toNat : Nat) : Int) = c by omega]
    exact ⟨h1, h2⟩
theorem uss_rm {M : Mp} (hM : WM M) (pg f : Int) : dls M (uss M f) = rmM M (dmf M (-1) pg f) 2048 := by
  rw [dmf_usf]
  refine dls_rm hM fun a c h => ?_
  have hi := hM a c h
  rw [uss_mem hM, show (a * 32 + c).toNat = a.toNat * 32 + c.toNat by omega, usf_iff a.toNat c.toNat (by omega) (by omega), show ((a.toNat : Nat) : Int) = a by omega, show ((c.toNat : Nat) : Int) = c by omega]
theorem uss_cnt (M : Mp) (pg f : Int) : (uss M f).length = (al (dmf M (-1) pg f) 2048).length := by
  rw [dmf_usf]
  unfold uss prs
  rw [List.length_map]
theorem ils_at (L : List Int) {k : Nat} (h : k < L.length) : (ilS L)[((k : Int)).toNat * 1 + 0]? = some (.int .i64 L[k]) := by simp [ilS, h]
theorem pcs_el (L : List (Int × Int)) {k : Nat} (h : k < L.length) : ∀ (j : Nat) u, [Value.int .i64 L[k].1, Value.int .i64 L[k].2][j]? = some u → (pcs L)[((k : Int)).toNat * 2 + j]? = some u := fun j u hu => by
  have hj : j < 2 := (List.getElem?_eq_some_iff.1 hu).1
  rw [Int.toNat_natCast]
  unfold pcs
  rw [flat_get prc 2 prc_len L k j L[k] (List.getElem?_eq_getElem h) hj]
  exact hu
theorem pgs_le (M : Mp) (s : Int) : (pgs M s).length ≤ 32 := al_le _ _
theorem uss_le (M : Mp) (f : Int) : (uss M f).length ≤ 2048 := prs_le _ _
attribute [local irreducible] Eng.Hold Eng.Z Eng.S Eng.cells Eng.old Eng.own Eng.mpc Eng.rgc Eng.onM Eng.fM Eng.wM Eng.upM Eng.delM
attribute [local irreducible] uss pcs pgs ilS dls row
set_option maxHeartbeats 4000000 in
theorem bempty_c (b m : Nat) (M : Mp) (hM : WM M) (s : Int) (fr : List Chunk) : Does Try.prog 24 [.pointer (some ⟨b, 0, none⟩), .int .i64 s] (cells b 78 [.map (some m)] :: mpc m M :: fr) (fun _ : Unit => True) (fun _ => .int .i64 (pgs M s).length) (fun _ => cells b 78 [.map (some m)] :: mpc m (dls M (row M s)) :: fr) := by
  intro w hw
  have hle := pgs_le M s
  refine f_enter Try.func24 rfl Try.ntmps24 rfl hw ?_
  repeat' (first
   | ((refine z_isdst 10 ?_; refine o_calla Try.func15 rfl rfl rfl (bpages_c b m M hM s fr) (by decide) fun x _ => ?_; obtain ⟨A, c⟩ := x; dsimp only))
   | (refine s_is ?_; first
   | (refine s_isw ?_; first
   | (refine s_isloop ?_; first
   | ((refine c_loop (X := Nat) (fun k => k ≤ (pgs M s).length) (fun k => [(0, .pointer (some ⟨b, 0, none⟩)), (1, .int .i64 s), (5, .slice A (pgs M s).length c), (11, .slice A (pgs M s).length c), (12, .int .i64 (pgs M s).length), (13, .int .i64 k)]) (fun k => own A c 3 1 (pgs M s).length (ilS (pgs M s)) :: cells b 78 [.map (some m)] :: mpc m (dls M ((row M s).take k)) :: fr) (fun k => (pgs M s).length - k) 0 (Nat.zero_le _) ⟨rfl, rfl, rfl, rfl, rfl, rfl, trivial⟩ (fun w h => by rw [List.take_zero, dls_nil]; exact h) (fun k hk => ?_); refine c_own2 0 rfl fun hkc hne => ?_; refine hold ?_)))
   | refine c_seq ?_
   | refine c_block ?_
   | refine c_region ?_))
   | (refine z_isnil ?_; first
   | refine z_list ?_)
   | (refine z_isop ?_; first
   | (refine z_isbi ?_; first
   | refine o_len tabOk rfl rfl (by decide) ?_)
   | refine o_move rfl (by decide) ?_
   | refine o_assign rfl (by decide) ?_))
  refine Hold.go ?_
  by_cases hl : k < (pgs M s).length
  · have hcell := ils_at (pgs M s) hl
    have hta := take_add (L := row M s) (k := k) (by rw [row_len]; exact hl)
    rw [row_at hl] at hta
    generalize (pgs M s)[k] = p at *
    have hd := dls_add M ((row M s).take k) s p
    rw [hta] at hd
    repeat' (first
     | ((refine z_isdst 20 ?_; refine z_sel rfl 3 [1, 2, 0] (by decide) ?_; refine o_calla Try.func23 rfl rfl rfl (bdrop_c b m _ s p _) (by decide) fun _ _ => ?_))
     | (refine s_is ?_; first
     | (refine s_isagain ?_; first
     | (exact c_again (k + 1) (by omega) (by omega) ⟨rfl, rfl, rfl, rfl, rfl, rfl, trivial⟩ (fun w h => by rw [← hd]; exact ((h.sel 3 [2, 0, 1] (by decide)).mask [true, true, true]))))
     | (refine s_isw ?_; first
     | refine c_seq ?_
     | refine c_block ?_
     | refine c_region ?_
     | refine c_skip ?_
     | (refine s_iscond ?_; first
     | (refine c_true rfl (by first | with_reducible rfl | with_reducible assumption | ((with_reducible refine decide_eq_true ?_); first | with_reducible rfl | with_reducible assumption | omega)) ?_))))
     | (refine z_isnil ?_; first
     | refine z_list ?_)
     | (refine z_isop ?_; first
     | refine o_indexsn tabOk (hne (by omega)) rfl rfl rfl rfl (by omega) (by omega) (by decide) ?_
     | (refine z_isbin ?_; first
     | (refine z_isb .add ?_; first
     | refine o_add rfl rfl (by omega) (by omega) (by decide) ?_)
     | (refine z_isb .lss ?_; first
     | refine o_lt rfl rfl (by decide) ?_))
     | (refine z_isload ?_; first
     | (refine z_ld1 tabOk rfl rfl ?_; first
     | refine o_loads tabOk (by first | exact own_rds 1 rfl | exact own_rds 0 rfl | exact hrd | exact cells_rds 0 rfl | exact cells_rds 1 rfl | exact own_rds 2 rfl | exact own_rds 3 rfl | assumption) rfl rfl rfl (by first | exact hcell | rfl | rfl) (by decide) ?_))
     | refine o_move rfl (by decide) ?_
     | refine o_assign rfl (by decide) ?_))
  · obtain rfl : k = (pgs M s).length := by omega
    rw [show (row M s).take (pgs M s).length = row M s by rw [← row_len]; exact List.take_length]
    repeat' (first
     | (refine s_is ?_; first
     | (refine s_isret ?_; first
     | exact f_r1 rfl (res_t rfl) () trivial rfl (fun w h => ((h.sel 3 [1, 2, 0] (by decide)).mask [true, true, false])))
     | (refine s_isw ?_; first
     | refine c_seq ?_
     | refine c_region ?_
     | refine c_ret ?_
     | refine c_exit ?_
     | (refine s_iscond ?_; first
     | (refine c_false rfl (by first | with_reducible rfl | with_reducible assumption | ((with_reducible refine decide_eq_false ?_); first | with_reducible assumption | omega)) ?_))))
     | (refine z_isnil ?_; first
     | refine z_list ?_)
     | (refine z_isop ?_; first
     | (refine z_isbin ?_; first
     | (refine z_isb .lss ?_; first
     | refine o_lt rfl rfl (by decide) ?_))
     | (refine z_isbi ?_; first
     | refine o_len tabOk rfl rfl (by decide) ?_)
     | refine o_move rfl (by decide) ?_
     | refine o_assign rfl (by decide) ?_))
set_option maxHeartbeats 4000000 in
theorem brelease_c (b m : Nat) (M : Mp) (hM : WM M) (f : Int) (fr : List Chunk) : Does Try.prog 21 [.pointer (some ⟨b, 0, none⟩), .int .i64 f] (cells b 78 [.map (some m)] :: mpc m M :: fr) (fun _ : Unit => True) (fun _ => .int .i64 (uss M f).length) (fun _ => cells b 78 [.map (some m)] :: mpc m (dls M (uss M f)) :: fr) := by
  intro w hw
  have hle := uss_le M f
  refine f_enter Try.func21 rfl Try.ntmps21 rfl hw ?_
  repeat' (first
   | ((refine z_isdst 10 ?_; refine o_calla Try.func17 rfl rfl rfl (buses_c b m M hM f fr) (by decide) fun x _ => ?_; obtain ⟨A, c⟩ := x; dsimp only))
   | (refine s_is ?_; first
   | (refine s_isw ?_; first
   | (refine s_isloop ?_; first
   | ((refine c_loop (X := Nat) (fun k => k ≤ (uss M f).length) (fun k => [(0, .pointer (some ⟨b, 0, none⟩)), (1, .int .i64 f), (5, .slice A (uss M f).length c), (11, .slice A (uss M f).length c), (12, .int .i64 (uss M f).length), (13, .int .i64 k)]) (fun k => own A c 45 2 (uss M f).length (pcs (uss M f)) :: cells b 78 [.map (some m)] :: mpc m (dls M ((uss M f).take k)) :: fr) (fun k => (uss M f).length - k) 0 (Nat.zero_le _) ⟨rfl, rfl, rfl, rfl, rfl, rfl, trivial⟩ (fun w h => by rw [List.take_zero, dls_nil]; exact h) (fun k hk => ?_); refine c_own2 0 rfl fun hkc hne => ?_; refine hold ?_)))
   | refine c_seq ?_
   | refine c_block ?_
   | refine c_region ?_))
   | (refine z_isnil ?_; first
   | refine z_list ?_)
   | (refine z_isop ?_; first
   | (refine z_isbi ?_; first
   | refine o_len tabOk rfl rfl (by decide) ?_)
   | refine o_move rfl (by decide) ?_
   | refine o_assign rfl (by decide) ?_))
  refine Hold.go ?_
  by_cases hl : k < (uss M f).length
  · have hel := pcs_el (uss M f) hl
    have hta := take_add (L := uss M f) (k := k) hl
    generalize (uss M f)[k] = x at *
    obtain ⟨s, p⟩ := x
    have hd := dls_add M ((uss M f).take k) s p
    rw [hta] at hd
    repeat' (first
     | ((refine z_isdst 15 ?_; refine o_indexsn tabOk (hne (by omega)) rfl rfl rfl rfl (by omega) (by omega) (by decide) ?_))
     | ((refine z_isdst 16 ?_; refine o_loadsw tabOk (own_rds 0 rfl) rfl rfl rfl (es := [.int .i64 s, .int .i64 p]) rfl (Nat.succ_pos _) hel (by decide) ?_))
     | ((refine z_isdst 22 ?_; refine z_sel rfl 4 [2, 3, 0, 1] (by decide) ?_; refine o_calla Try.func23 rfl rfl rfl (bdrop_c b m _ s p _) (by decide) fun _ _ => ?_))
     | ((refine z_isdst 7 ?_; refine o_alloca (e := 45) (vs := [.int .i64 0, .int .i64 0]) rfl (by kernel_rfl) (by decide) fun g7 => ?_))
     | (refine s_is ?_; first
     | (refine s_isagain ?_; first
     | (exact c_again (k + 1) (by omega) (by omega) ⟨rfl, rfl, rfl, rfl, rfl, rfl, trivial⟩ (fun w h => by rw [← hd]; exact ((h.sel 4 [3, 0, 1, 2] (by decide)).mask [true, true, true, false]))))
     | (refine s_isw ?_; first
     | refine c_seq ?_
     | refine c_block ?_
     | refine c_region ?_
     | refine c_skip ?_
     | (refine s_iscond ?_; first
     | (refine c_true rfl (by first | with_reducible rfl | with_reducible assumption | ((with_reducible refine decide_eq_true ?_); first | with_reducible rfl | with_reducible assumption | omega)) ?_))))
     | (refine z_isnil ?_; first
     | refine z_list ?_)
     | (refine z_isop ?_; first
     | (refine z_isbin ?_; first
     | (refine z_isb .add ?_; first
     | refine o_add rfl rfl (by omega) (by omega) (by decide) ?_)
     | (refine z_isb .lss ?_; first
     | refine o_lt rfl rfl (by decide) ?_))
     | (refine z_isload ?_; first
     | (refine z_ld1 tabOk rfl rfl ?_; first
     | refine o_loadm tabOk rfl rfl rfl (by repeat' (first | exact List.mem_cons_self | apply List.mem_cons_of_mem)) (by first | exact hcell | rfl | rfl) (by decide) ?_))
     | (refine z_isstore ?_; first
     | (refine z_stw rfl ?_; first
     | ((refine z_sti 0 rfl rfl ?_; refine o_storeb0 rfl tabOk rfl rfl rfl (by first | rfl | rfl) (by first | rfl | rfl) (by first | rfl | rfl) ?_))))
     | (refine z_isix ?_; first
     | refine o_index0 tabOk rfl rfl rfl rfl (by omega) (by omega) (by decide) ?_)
     | refine o_move rfl (by decide) ?_))
  · obtain rfl : k = (uss M f).length := by omega
    rw [show (uss M f).take (uss M f).length = uss M f from List.take_length]
    repeat' (first
     | (refine s_is ?_; first
     | (refine s_isret ?_; first
     | exact f_r1 rfl (res_t rfl) () trivial rfl (fun w h => ((h.sel 3 [1, 2, 0] (by decide)).mask [true, true, false])))
     | (refine s_isw ?_; first
     | refine c_seq ?_
     | refine c_region ?_
     | refine c_ret ?_
     | refine c_exit ?_
     | (refine s_iscond ?_; first
     | (refine c_false rfl (by first | with_reducible rfl | with_reducible assumption | ((with_reducible refine decide_eq_false ?_); first | with_reducible assumption | omega)) ?_))))
     | (refine z_isnil ?_; first
     | refine z_list ?_)
     | (refine z_isop ?_; first
     | (refine z_isbin ?_; first
     | (refine z_isb .lss ?_; first
     | refine o_lt rfl rfl (by decide) ?_))
     | (refine z_isbi ?_; first
     | refine o_len tabOk rfl rfl (by decide) ?_)
     | refine o_move rfl (by decide) ?_
     | refine o_assign rfl (by decide) ?_))
end Go.Proofs.Ytnckabgaichkkaa
