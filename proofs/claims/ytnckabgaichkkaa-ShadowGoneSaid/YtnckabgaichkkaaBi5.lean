/-
Bind: Uses.
-/
import Derived.Test.YtnckabgaichkkaaBiSF
namespace Go.Proofs.Ytnckabgaichkkaa
set_option linter.unusedVariables false
set_option linter.unusedSimpArgs false
open Eng
/-- What is known on the way: some are told, some are still to come. -/
structure Gt (M : Mp) (G : Int → Int → Prop) (out L : List (Int × Int)) : Prop where
  no : out.Nodup
  nl : L.Nodup
  l : ∀ a c, (a, c) ∈ L → M a c ≠ none
  o : ∀ a c, (a, c) ∈ out ↔ ((M a c ≠ none ∧ G a c) ∧ (a, c) ∉ L)
theorem Gt.start {M : Mp} {G : Int → Int → Prop} {L : List (Int × Int)} (hN : L.Nodup) (hL : ∀ s p, (s, p) ∈ L ↔ M s p ≠ none) : Gt M G [] L := ⟨List.nodup_nil, hN, fun a c h => (hL a c).1 h, fun a c => ⟨fun h => (by cases h), fun ⟨h1, h2⟩ => absurd ((hL a c).2 h1.1) h2⟩⟩
theorem Gt.perm {M : Mp} {G : Int → Int → Prop} {out L L' : List (Int × Int)} (h : Gt M G out L) (hp : L.Perm L') : Gt M G out L' := ⟨h.no, hp.nodup_iff.1 h.nl, fun a c hc => h.l a c (hp.mem_iff.2 hc), fun a c => by rw [h.o, hp.mem_iff]⟩
theorem Gt.yes {M : Mp} {G : Int → Int → Prop} {s c : Int} {out L : List (Int × Int)} (h : Gt M G out ((s, c) :: L)) (hG : G s c) : Gt M G (out ++ [(s, c)]) L := by
  have hnl := List.nodup_cons.1 h.nl
  refine ⟨?_, hnl.2, fun a d hd => h.l a d (List.mem_cons_of_mem _ hd), fun a q => ?_⟩
  · rw [List.nodup_append]
    refine ⟨h.no, by simp, fun x hx b hb e => ?_⟩
    rw [List.mem_singleton] at hb
    subst e hb
    exact ((h.o _ _).1 hx).2 List.mem_cons_self
  · rw [List.mem_append, h.o, List.mem_singleton]
    constructor
    · rintro (⟨h1, h2⟩ | e)
      · exact ⟨h1, fun e => h2 (List.mem_cons_of_mem _ e)⟩
      · cases e; exact ⟨⟨h.l s _ List.mem_cons_self, hG⟩, hnl.1⟩
    · rintro ⟨h1, h2⟩
      by_cases e : (a, q) = (s, c)
      · exact .inr e
      · refine .inl ⟨h1, fun h3 => ?_⟩
        rcases List.mem_cons.1 h3 with e2 | h3
        · exact e e2
        · exact h2 h3
theorem Gt.skip {M : Mp} {G : Int → Int → Prop} {s c : Int} {out L : List (Int × Int)} (h : Gt M G out ((s, c) :: L)) (hG : ¬ G s c) : Gt M G out L := by
  have hnl := List.nodup_cons.1 h.nl
  refine ⟨h.no, hnl.2, fun a d hd => h.l a d (List.mem_cons_of_mem _ hd), fun a q => ?_⟩
  rw [h.o]
  constructor
  · rintro ⟨h1, h2⟩; exact ⟨h1, fun e => h2 (List.mem_cons_of_mem _ e)⟩
  · rintro ⟨h1, h2⟩
    refine ⟨h1, fun h3 => ?_⟩
    rcases List.mem_cons.1 h3 with e | h3
    · cases e; exact hG h1.2
    · exact h2 h3
theorem in_le {M : Mp} (hM : WM M) {out : List (Int × Int)} (hN : out.Nodup) (h : ∀ a c, (a, c) ∈ out → M a c ≠ none) : out.length ≤ 2048 := by
  have hp : out.Perm (prs (fun k => decide (plc k ∈ out)) 2048) := perm_of_nodup hN (prs_nodup _ _) fun x => by
    obtain ⟨a, c⟩ := x
    rw [prs_mem, decide_eq_true_eq]
    constructor
    · intro hx
      have := hM a c (h a c hx)
      refine ⟨this.1, this.2.2.1, this.2.2.2, by omega, ?_⟩
      have e : plc ((a * 32 + c).toNat : Int) = (a, c) := by
        unfold plc
        exact Prod.ext (by show ((a * 32 + c).toNat : Int) / 32 = a; omega) (by show ((a * 32 + c).toNat : Int) % 32 = c; omega)
      rw [e]; exact hx
    · rintro ⟨h0, h1, h2, h3, h4⟩
      have e : plc ((a * 32 + c).toNat : Int) = (a, c) := by
        unfold plc
        exact Prod.ext (by show ((a * 32 + c).toNat : Int) / 32 = a; omega) (by show ((a * 32 + c).toNat : Int) % 32 = c; omega)
      rwa [e] at h4
  rw [hp.length_eq]
  exact prs_le _ _
theorem Gt.le {M : Mp} (hM : WM M) {G : Int → Int → Prop} {out L : List (Int × Int)} (h : Gt M G out L) : out.length ≤ 2048 := in_le hM h.no fun a c hx => ((h.o a c).1 hx).1.1
theorem Gt.fin {M : Mp} (hM : WM M) {G : Int → Int → Prop} {out : List (Int × Int)} (h : Gt M G out []) {g : Nat → Bool} (hg : ∀ s p : Nat, s < 64 → p < 32 → (g (s * 32 + p) = true ↔ (M s p ≠ none ∧ G s p))) : lsort out = prs g 2048 := lsort_eq h.no fun x => by
  obtain ⟨a, c⟩ := x
  rw [h.o, prs_mem]
  constructor
  · rintro ⟨h1, _⟩
    have hi := hM a c h1.1
    have h2 := (hg a.toNat c.toNat (by omega) (by omega)).2 (by rw [show ((a.toNat : Nat) : Int) = a by omega, show ((c.toNat : Nat) : Int) = c by omega]; exact h1)
    exact ⟨hi.1, hi.2.2.1, hi.2.2.2, by omega, by rw [show (a * 32 + c).toNat = a.toNat * 32 + c.toNat by omega]; exact h2⟩
  · rintro ⟨h0, h1, h2, h3, h4⟩
    rw [show (a * 32 + c).toNat = a.toNat * 32 + c.toNat by omega] at h4
    have h5 := (hg a.toNat c.toNat (by omega) (by omega)).1 h4
    rw [show ((a.toNat : Nat) : Int) = a by omega, show ((c.toNat : Nat) : Int) = c by omega] at h5
    exact ⟨h5, fun e => by cases e⟩
theorem usf_iff {M : Mp} {f : Int} (s p : Nat) (hs : s < 64) (hp : p < 32) : usf M f (s * 32 + p) = true ↔ (M s p ≠ none ∧ fM M s p = f) := by
  rw [usf_sp hp, Bool.and_eq_true, decide_eq_true_eq, onM_iff]
theorem fM_of {M : Mp} {s p f : Int} {x : Bool} (h : M s p = some (f, x)) : fM M s p = f := by unfold fM; rw [h]
theorem uss_eq (M : Mp) (f : Int) : prs (usf M f) 2048 = uss M f := rfl
attribute [local irreducible] Eng.Hold Eng.Z Eng.S Eng.cells Eng.old Eng.own Eng.mpc Eng.rgc Eng.onM Eng.fM Eng.wM Eng.upM Eng.delM
attribute [local irreducible] uss pcs
set_option maxHeartbeats 4000000 in
theorem buses_c (b m : Nat) (M : Mp) (hM : WM M) (fm : Int) (fr : List Chunk) : Does Try.prog 17 [.pointer (some ⟨b, 0, none⟩), .int .i64 fm] (cells b 78 [.map (some m)] :: mpc m M :: fr) (fun _ : Option Addr × Nat => True) (fun x => .slice x.1 (uss M fm).length x.2) (fun x => own x.1 x.2 45 2 (uss M fm).length (pcs (uss M fm)) :: cells b 78 [.map (some m)] :: mpc m M :: fr) := by
  intro w hw
  refine f_enter Try.func17 rfl Try.ntmps17 rfl hw ?_
  repeat' (first
   | ((refine z_isdst 14 ?_; refine o_range mtB rfl 1 rfl (by decide) fun gr L0 hN hL => ?_))
   | (refine s_is ?_; first
   | (refine s_isw ?_; first
   | (refine s_isloop ?_; first
   | ((refine c_loop (X := Option Addr × Nat × List (Int × Int) × List (Int × Int) × Option (Int × Int × Int × Bool)) (fun y => Gt M (fun s p => fM M s p = fm) y.2.2.1 y.2.2.2.1) (fun y => [(0, .pointer (some ⟨b, 0, none⟩)), (1, .int .i64 fm), (5, .slice y.1 y.2.2.1.length y.2.1), (14, .pointer (some ⟨gr, 0, none⟩))]) (fun y => own y.1 y.2.1 45 2 y.2.2.1.length (pcs y.2.2.1) :: cells b 78 [.map (some m)] :: rgc m gr M y.2.2.2.1 y.2.2.2.2 :: fr) (fun y => y.2.2.2.1.length) (none, 0, [], L0, none) (Gt.start hN hL) ⟨rfl, rfl, rfl, rfl, trivial⟩ (fun w h => by unfold pcs; exact h.nil 45 2) (fun y hy => ?_); obtain ⟨A, c, out, L, cur⟩ := y; dsimp only at hy ⊢; refine hold ?_)))
   | refine c_seq ?_
   | refine c_block ?_
   | refine c_region ?_
   | refine c_skip ?_
   | (refine s_iscond ?_; first
   | (refine c_false rfl (by first | (simp only [Bool.not_eq_false', decide_eq_true_eq]; omega) | (with_reducible assumption) | (rw [decide_eq_false] <;> (first | omega | with_reducible rfl)) | (rw [decide_eq_true] <;> (first | omega | with_reducible rfl)) | (simp; done) | (simp; omega)) ?_))))
   | (refine z_isnil ?_; first
   | refine z_list ?_)
   | (refine z_isop ?_; first
   | (refine z_isbin ?_; first
   | (refine z_isb .eql ?_; first
   | refine o_peq tabOk rfl rfl (by decide) ?_))
   | (refine z_isload ?_; first
   | (refine z_ld1 tabOk rfl rfl ?_; first
   | refine o_loadm tabOk rfl rfl rfl (by repeat' (first | exact List.mem_cons_self | apply List.mem_cons_of_mem)) (by first | rfl | rfl) (by decide) ?_))
   | refine o_move rfl (by decide) ?_
   | refine o_assign rfl (by decide) ?_
   | refine o_nil rfl (by decide) ?_
   | refine o_field0 tabOk rfl rfl rfl rfl rfl (by decide) ?_))
  refine Hold.go ?_
  have hle := hy.le hM
  cases L with
  | nil =>
    have hf : lsort out = uss M fm := (hy.fin hM usf_iff).trans (uss_eq M fm)
    have hfl : out.length = (uss M fm).length := by rw [← hf, lsort_len]
    repeat' (first
     | ((refine z_isdst 15 ?_; refine o_next0 rfl 2 rfl rfl (by decide) ?_))
     | ((refine z_isdst 33 ?_; refine o_call Try.func45 rfl rfl rfl (sortf_c out A c (by omega)) (List.Perm.refl _) (by decide) fun _ _ => ?_; rw [hf, hfl]))
     | (refine s_is ?_; first
     | (refine s_isret ?_; first
     | exact f_r1 rfl (res_t rfl) (A, c) trivial rfl (fun w h => (st_unrange (((h.sel 3 [2, 0, 1] (by decide)).mask [true, true, true]))).sel 3 [1, 2, 0] (by decide)))
     | (refine s_isw ?_; first
     | refine c_seq ?_
     | refine c_region ?_
     | refine c_ret ?_
     | refine c_exit ?_
     | (refine s_iscond ?_; first
     | (refine c_false rfl (by first | with_reducible rfl | with_reducible assumption | ((with_reducible refine decide_eq_false ?_); first | with_reducible assumption | omega)) ?_))))
     | (refine z_isnil ?_; first
     | refine z_list ?_)
     | (refine z_isop ?_; first
     | refine o_move rfl (by decide) ?_
     | refine o_assign rfl (by decide) ?_
     | refine o_extract rfl rfl (by decide) ?_))
  | cons y0 L1 =>
    repeat' (first
     | ((refine z_isdst 15 ?_; refine o_next1 rfl 2 rfl (fun e => by cases e) (by decide) fun a q f x L' hp hMv => ?_; refine hold ?_))
     | (refine s_is ?_; first
     | (refine s_isw ?_; first
     | refine c_seq ?_
     | refine c_region ?_)))
    refine Hold.go ?_
    have hy2 := hy.perm hp
    have hlen : L1.length + 1 = L'.length + 1 := by have := hp.length_eq; rw [List.length_cons, List.length_cons] at this; exact this
    have hfe := fM_of hMv
    by_cases has : f = fm
    · have hy3 := hy2.yes (show fM M a q = fm by rw [hfe]; exact has)
      have hil := pcs_add out a q
      repeat' (first
       | ((refine z_isdst 6 ?_; refine o_alloca (e := 82) (vs := [.int .i64 0, .int .i64 0]) rfl (by kernel_rfl) (by decide) fun g6 => ?_))
       | ((refine z_isdst 7 ?_; refine o_alloca (e := 36) (vs := [.int .i64 0, .bool false]) rfl (by kernel_rfl) (by decide) fun g7 => ?_))
       | ((refine z_isdst 17 ?_; refine o_entry rfl 2 rfl (by decide) ?_))
       | ((refine z_isdst 29 ?_; refine o_build (v := .agg #[.int .i64 a, .int .i64 q]) rfl (fun _ => by kernel_rfl) (by decide) ?_))
       | (refine s_is ?_; first
       | (refine s_isagain ?_; first
       | (exact c_again (A', c', out ++ [(a, q)], L', some (a, q, f, x)) hy3 (by dsimp only; rw [List.length_cons]; omega) ⟨rfl, rfl, (by dsimp only; rw [List.length_append]; rfl), rfl, trivial⟩ (fun w h => by dsimp only; rw [hil, List.length_append]; simp only [fronts, moveF, selF, sel1, nth, List.drop_succ_cons, List.drop_zero, List.eraseIdx_cons_zero, List.eraseIdx_cons_succ, maskL, List.cons_append, List.nil_append, List.append_eq, List.set_cons_zero, List.set_cons_succ] at h; exact ((h.sel 6 [0, 4, 5, 1, 2, 3] (by decide)).mask [true, true, true, false, false, false]))))
       | (refine s_isw ?_; first
       | refine c_seq ?_
       | refine c_block ?_
       | refine c_region ?_
       | refine c_skip ?_
       | (refine s_iscond ?_; first
       | (refine c_true rfl (by first | with_reducible rfl | with_reducible assumption | ((with_reducible refine decide_eq_true ?_); first | with_reducible rfl | with_reducible assumption | omega)) ?_))))
       | (refine z_isnil ?_; first
       | refine z_list ?_)
       | (refine z_isop ?_; first
       | (refine o_makew (vs := [.int .i64 a, .int .i64 q]) rfl tabOk zeroOk rfl rfl rfl rfl rfl rfl rfl (by decide) fun gn => ?_)
       | (refine z_isbin ?_; first
       | (refine z_isb .eql ?_; first
       | refine o_eq rfl rfl (by decide) ?_))
       | (refine z_isload ?_; first
       | (refine z_ld1 tabOk rfl rfl ?_; first
       | refine o_loadm tabOk rfl rfl rfl (by repeat' (first | exact List.mem_cons_self | apply List.mem_cons_of_mem)) (by first | rfl | rfl) (by decide) ?_))
       | (refine z_isstore ?_; first
       | (refine z_stw rfl ?_; first
       | ((refine z_sti 0 rfl rfl ?_; refine o_storeb0 rfl tabOk rfl rfl rfl (by first | rfl | rfl) (by first | rfl | rfl) (by first | rfl | rfl) ?_))
       | ((refine z_sti 1 rfl rfl ?_; refine o_storeb1 rfl tabOk rfl rfl rfl (by first | rfl | rfl) (by first | rfl | rfl) (by first | rfl | rfl) ?_))))
       | (refine z_isbi ?_; first
       | (refine z_front rfl 3 rfl ?_; refine o_append rfl tabOk zeroOk rfl rfl rfl rfl rfl rfl (by first | exact own_rds 1 rfl | exact own_rds 0 rfl | exact hrd | exact cells_rds 0 rfl | exact cells_rds 1 rfl | exact own_rds 2 rfl | exact own_rds 3 rfl | assumption) (by first | rfl | rfl | (simp; done)) (by first | rfl | rfl | (simp; done)) (by omega) (by omega) (by decide) fun A' c' => ?_))
       | refine o_move rfl (by decide) ?_
       | refine o_assign rfl (by decide) ?_
       | refine o_extract rfl rfl (by decide) ?_
       | refine o_field0 tabOk rfl rfl rfl rfl rfl (by decide) ?_))
    · have hy3 := hy2.skip (show ¬ fM M a q = fm by rw [hfe]; exact has)
      repeat' (first
       | ((refine z_isdst 6 ?_; refine o_alloca (e := 82) (vs := [.int .i64 0, .int .i64 0]) rfl (by kernel_rfl) (by decide) fun g6 => ?_))
       | ((refine z_isdst 7 ?_; refine o_alloca (e := 36) (vs := [.int .i64 0, .bool false]) rfl (by kernel_rfl) (by decide) fun g7 => ?_))
       | ((refine z_isdst 17 ?_; refine o_entry rfl 2 rfl (by decide) ?_))
       | (refine s_is ?_; first
       | (refine s_isagain ?_; first
       | (exact c_again (A, c, out, L', some (a, q, f, x)) hy3 (by dsimp only; rw [List.length_cons]; omega) ⟨rfl, rfl, rfl, rfl, trivial⟩ (fun w h => ((h.sel 5 [2, 3, 4, 0, 1] (by decide)).mask [true, true, true, false, false]))))
       | (refine s_isw ?_; first
       | refine c_seq ?_
       | refine c_block ?_
       | refine c_region ?_
       | refine c_skip ?_
       | (refine s_iscond ?_; first
       | (refine c_true rfl (by first | with_reducible rfl | with_reducible assumption | ((with_reducible refine decide_eq_true ?_); first | with_reducible rfl | with_reducible assumption | omega)) ?_)
       | (refine c_false rfl (by first | with_reducible rfl | with_reducible assumption | ((with_reducible refine decide_eq_false ?_); first | with_reducible assumption | omega)) ?_))))
       | (refine z_isnil ?_; first
       | refine z_list ?_)
       | (refine z_isop ?_; first
       | (refine z_isbin ?_; first
       | (refine z_isb .eql ?_; first
       | refine o_eq rfl rfl (by decide) ?_))
       | (refine z_isload ?_; first
       | (refine z_ld1 tabOk rfl rfl ?_; first
       | refine o_loadm tabOk rfl rfl rfl (by repeat' (first | exact List.mem_cons_self | apply List.mem_cons_of_mem)) (by first | rfl | rfl) (by decide) ?_))
       | (refine z_isstore ?_; first
       | (refine z_stw rfl ?_; first
       | ((refine z_sti 0 rfl rfl ?_; refine o_storeb0 rfl tabOk rfl rfl rfl (by first | rfl | rfl) (by first | rfl | rfl) (by first | rfl | rfl) ?_))
       | ((refine z_sti 1 rfl rfl ?_; refine o_storeb1 rfl tabOk rfl rfl rfl (by first | rfl | rfl) (by first | rfl | rfl) (by first | rfl | rfl) ?_))))
       | refine o_move rfl (by decide) ?_
       | refine o_extract rfl rfl (by decide) ?_
       | refine o_field0 tabOk rfl rfl rfl rfl rfl (by decide) ?_))
end Go.Proofs.Ytnckabgaichkkaa
