/-
Bind: Pages.
-/
import Derived.Test.YtnckabgaichkkaaBi2
import Derived.Test.YtnckabgaichkkaaBiL
namespace Go.Proofs.Ytnckabgaichkkaa
set_option linter.unusedVariables false
set_option linter.unusedSimpArgs false
open Eng
def pgf (M : Mp) (s : Int) : Nat → Bool := fun p => onM M s p
def pgs (M : Mp) (s : Int) : List Int := al (pgf M s) 32
theorem onM_iff {M : Mp} {s p : Int} : onM M s p = true ↔ M s p ≠ none := by
  unfold onM
  cases M s p with
  | none => exact ⟨fun h => (by cases h), fun h => absurd rfl h⟩
  | some v => exact ⟨fun _ h => (by cases h), fun _ => rfl⟩
theorem pgs_mem {M : Mp} (hM : WM M) {s x : Int} : x ∈ pgs M s ↔ M s x ≠ none := by
  unfold pgs pgf
  rw [al_mem]
  constructor
  · rintro ⟨h0, h1, h2⟩
    rw [show ((x.toNat : Nat) : Int) = x by omega] at h2
    exact onM_iff.1 h2
  · intro h
    have := hM s x h
    exact ⟨this.2.2.1, by omega, by rw [show ((x.toNat : Nat) : Int) = x by omega]; exact onM_iff.2 h⟩
/-- What is known on the way. -/
structure Pg (M : Mp) (s : Int) (out : List Int) (L : List (Int × Int)) : Prop where
  no : out.Nodup
  nl : L.Nodup
  l : ∀ a c, (a, c) ∈ L → M a c ≠ none
  o : ∀ q, q ∈ out ↔ (M s q ≠ none ∧ (s, q) ∉ L)
theorem Pg.start {M : Mp} {s : Int} {L : List (Int × Int)} (hN : L.Nodup) (hL : ∀ s p, (s, p) ∈ L ↔ M s p ≠ none) : Pg M s [] L := ⟨List.nodup_nil, hN, fun a c h => (hL a c).1 h, fun q => ⟨fun h => (by cases h), fun ⟨h1, h2⟩ => absurd ((hL s q).2 h1) h2⟩⟩
theorem Pg.perm {M : Mp} {s : Int} {out : List Int} {L L' : List (Int × Int)} (h : Pg M s out L) (hp : L.Perm L') : Pg M s out L' := ⟨h.no, hp.nodup_iff.1 h.nl, fun a c hc => h.l a c (hp.mem_iff.2 hc), fun q => by rw [h.o, hp.mem_iff]⟩
theorem Pg.yes {M : Mp} {s c : Int} {out : List Int} {L : List (Int × Int)} (h : Pg M s out ((s, c) :: L)) : Pg M s (out ++ [c]) L := by
  have hnl := List.nodup_cons.1 h.nl
  refine ⟨?_, hnl.2, fun a d hd => h.l a d (List.mem_cons_of_mem _ hd), fun q => ?_⟩
  · rw [List.nodup_append]
    refine ⟨h.no, by simp, fun a ha b hb e => ?_⟩
    rw [List.mem_singleton] at hb
    subst e hb
    exact ((h.o _).1 ha).2 List.mem_cons_self
  · rw [List.mem_append, h.o, List.mem_singleton]
    constructor
    · rintro (⟨h1, h2⟩ | rfl)
      · exact ⟨h1, fun e => h2 (List.mem_cons_of_mem _ e)⟩
      · exact ⟨h.l s _ List.mem_cons_self, hnl.1⟩
    · rintro ⟨h1, h2⟩
      by_cases e : q = c
      · exact .inr e
      · refine .inl ⟨h1, fun h3 => ?_⟩
        rcases List.mem_cons.1 h3 with e2 | h3
        · cases e2; exact e rfl
        · exact h2 h3
theorem Pg.skip {M : Mp} {s a c : Int} {out : List Int} {L : List (Int × Int)} (h : Pg M s out ((a, c) :: L)) (hs : a ≠ s) : Pg M s out L := by
  have hnl := List.nodup_cons.1 h.nl
  refine ⟨h.no, hnl.2, fun a d hd => h.l a d (List.mem_cons_of_mem _ hd), fun q => ?_⟩
  rw [h.o]
  constructor
  · rintro ⟨h1, h2⟩; exact ⟨h1, fun e => h2 (List.mem_cons_of_mem _ e)⟩
  · rintro ⟨h1, h2⟩
    refine ⟨h1, fun h3 => ?_⟩
    rcases List.mem_cons.1 h3 with e | h3
    · cases e; exact hs rfl
    · exact h2 h3
theorem Pg.le {M : Mp} (hM : WM M) {s : Int} {out : List Int} {L : List (Int × Int)} (h : Pg M s out L) : out.length ≤ 32 := nodup_le h.no fun x hx => by
  have := hM s x ((h.o x).1 hx).1
  exact ⟨this.2.2.1, this.2.2.2⟩
theorem Pg.fin {M : Mp} (hM : WM M) {s : Int} {out : List Int} (h : Pg M s out []) : srt out = pgs M s := srt_al h.no fun x => by
  rw [h.o]
  show _ ↔ x ∈ pgs M s
  rw [pgs_mem hM]
  exact ⟨fun h => h.1, fun h => ⟨h, fun e => (by cases e)⟩⟩
theorem ils_add (l : List Int) (q : Int) : ilS (l ++ [q]) = ilS l ++ [.int .i64 q] := by simp [ilS]
attribute [local irreducible] Eng.Hold Eng.Z Eng.S Eng.cells Eng.old Eng.own Eng.mpc Eng.rgc Eng.onM Eng.fM Eng.wM Eng.upM Eng.delM
attribute [local irreducible] pgs ilS
set_option maxHeartbeats 4000000 in
theorem bpages_c (b m : Nat) (M : Mp) (hM : WM M) (s : Int) (fr : List Chunk) : Does Try.prog 15 [.pointer (some ⟨b, 0, none⟩), .int .i64 s] (cells b 78 [.map (some m)] :: mpc m M :: fr) (fun _ : Option Addr × Nat => True) (fun x => .slice x.1 (pgs M s).length x.2) (fun x => own x.1 x.2 3 1 (pgs M s).length (ilS (pgs M s)) :: cells b 78 [.map (some m)] :: mpc m M :: fr) := by
  intro w hw
  refine f_enter Try.func15 rfl Try.ntmps15 rfl hw ?_
  repeat' (first
   | ((refine z_isdst 13 ?_; refine o_range mtB rfl 1 rfl (by decide) fun gr L0 hN hL => ?_))
   | (refine s_is ?_; first
   | (refine s_isw ?_; first
   | (refine s_isloop ?_; first
   | ((refine c_loop (X := Option Addr × Nat × List Int × List (Int × Int) × Option (Int × Int × Int × Bool)) (fun y => Pg M s y.2.2.1 y.2.2.2.1) (fun y => [(0, .pointer (some ⟨b, 0, none⟩)), (1, .int .i64 s), (5, .slice y.1 y.2.2.1.length y.2.1), (13, .pointer (some ⟨gr, 0, none⟩))]) (fun y => own y.1 y.2.1 3 1 y.2.2.1.length (ilS y.2.2.1) :: cells b 78 [.map (some m)] :: rgc m gr M y.2.2.2.1 y.2.2.2.2 :: fr) (fun y => y.2.2.2.1.length) (none, 0, [], L0, none) (Pg.start hN hL) ⟨rfl, rfl, rfl, rfl, trivial⟩ (fun w h => by unfold ilS; exact h.nil 3 1) (fun y hy => ?_); obtain ⟨A, c, out, L, cur⟩ := y; dsimp only at hy ⊢; refine hold ?_)))
   | refine c_seq ?_
   | refine c_block ?_
   | refine c_region ?_
   | refine c_skip ?_
   | (refine s_iscond ?_; first
   | (refine c_false rfl (by first | (simp only [Bool.not_eq_false', decide_eq_true_eq]; omega) | (with_reducible assumption) | (rw [decide_eq_false] <;> (first | omega | with_reducible rfl)) | (rw [decide_eq_true] <;> (first | omega | with_reducible rfl)) | (simp; done) | (simp; omega)) ?_))))
   | (refine z_isnil ?_; first
   | refine z_list ?_)
   | (refine z_isop ?_; first
   | (refine z_isbin ?_; first
   | (refine z_isb .eql ?_; first
   | refine o_peq tabOk rfl rfl (by decide) ?_))
   | (refine z_isload ?_; first
   | (refine z_ld1 tabOk rfl rfl ?_; first
   | refine o_loadm tabOk rfl rfl rfl (by repeat' (first | exact List.mem_cons_self | apply List.mem_cons_of_mem)) (by first | rfl | rfl) (by decide) ?_))
   | refine o_move rfl (by decide) ?_
   | refine o_assign rfl (by decide) ?_
   | refine o_nil rfl (by decide) ?_
   | refine o_field0 tabOk rfl rfl rfl rfl rfl (by decide) ?_))
  refine Hold.go ?_
  have hle := hy.le hM
  cases L with
  | nil =>
    have hf := hy.fin hM
    have hfl : out.length = (pgs M s).length := by rw [← hf, srt_len]
    repeat' (first
     | ((refine z_isdst 14 ?_; refine o_next0 rfl 2 rfl rfl (by decide) ?_))
     | ((refine z_isdst 28 ?_; refine o_call Try.func44 rfl rfl rfl (sort_c out A c (by omega)) (List.Perm.refl _) (by decide) fun _ _ => ?_; rw [hf, hfl]))
     | (refine s_is ?_; first
     | (refine s_isret ?_; first
     | exact f_r1 rfl (res_t rfl) (A, c) trivial rfl (fun w h => (st_unrange (((h.sel 3 [2, 0, 1] (by decide)).mask [true, true, true]))).sel 3 [1, 2, 0] (by decide)))
     | (refine s_isw ?_; first
     | refine c_seq ?_
     | refine c_region ?_
     | refine c_ret ?_
     | refine c_exit ?_
     | (refine s_iscond ?_; first
     | (refine c_false rfl (by first | with_reducible rfl | with_reducible assumption | ((with_reducible refine decide_eq_false ?_); first | with_reducible assumption | omega)) ?_))))
     | (refine z_isnil ?_; first
     | refine z_list ?_)
     | (refine z_isop ?_; first
     | refine o_move rfl (by decide) ?_
     | refine o_assign rfl (by decide) ?_
     | refine o_extract rfl rfl (by decide) ?_))
  | cons y0 L1 =>
    repeat' (first
     | ((refine z_isdst 14 ?_; refine o_next1 rfl 2 rfl (fun e => by cases e) (by decide) fun a q f x L' hp hMv => ?_; refine hold ?_))
     | (refine s_is ?_; first
     | (refine s_isw ?_; first
     | refine c_seq ?_
     | refine c_region ?_)))
    refine Hold.go ?_
    have hy2 := hy.perm hp
    have hlen : L1.length + 1 = L'.length + 1 := by have := hp.length_eq; rw [List.length_cons, List.length_cons] at this; exact this
    by_cases has : a = s
    · subst has
      have hy3 := hy2.yes
      have hil := ils_add out q
      repeat' (first
       | ((refine z_isdst 6 ?_; refine o_alloca (e := 82) (vs := [.int .i64 0, .int .i64 0]) rfl (by kernel_rfl) (by decide) fun g6 => ?_))
       | ((refine z_isdst 16 ?_; refine o_entry rfl 2 rfl (by decide) ?_))
       | (refine s_is ?_; first
       | (refine s_isagain ?_; first
       | (exact c_again (A', c', out ++ [q], L', some (a, q, f, x)) hy3 (by dsimp only; rw [List.length_cons]; omega) ⟨rfl, rfl, (by dsimp only; rw [List.length_append]; rfl), rfl, trivial⟩ (fun w h => by dsimp only; rw [hil, List.length_append]; simp only [fronts, moveF, selF, sel1, nth, List.drop_succ_cons, List.drop_zero, List.eraseIdx_cons_zero, List.eraseIdx_cons_succ, maskL, List.cons_append, List.nil_append, List.append_eq, List.set_cons_zero, List.set_cons_succ] at h; exact ((h.sel 5 [0, 3, 4, 1, 2] (by decide)).mask [true, true, true, false, false]))))
       | (refine s_isw ?_; first
       | refine c_seq ?_
       | refine c_block ?_
       | refine c_region ?_
       | refine c_skip ?_
       | (refine s_iscond ?_; first
       | (refine c_true rfl (by first | with_reducible rfl | with_reducible assumption | ((with_reducible refine decide_eq_true ?_); first | with_reducible rfl | with_reducible assumption | omega)) ?_))))
       | (refine z_isnil ?_; first
       | refine z_list ?_)
       | (refine z_isop ?_; first
       | (refine z_isbin ?_; first
       | (refine z_isb .eql ?_; first
       | refine o_eq rfl rfl (by decide) ?_))
       | (refine z_isload ?_; first
       | (refine z_ld1 tabOk rfl rfl ?_; first
       | refine o_loadm tabOk rfl rfl rfl (by repeat' (first | exact List.mem_cons_self | apply List.mem_cons_of_mem)) (by first | rfl | rfl) (by decide) ?_))
       | (refine z_isstore ?_; first
       | (refine z_stw rfl ?_; first
       | ((refine z_sti 0 rfl rfl ?_; refine o_storeb0 rfl tabOk rfl rfl rfl (by first | rfl | rfl) (by first | rfl | rfl) (by first | rfl | rfl) ?_))))
       | (refine z_ismakes ?_; first
       | refine o_make1 rfl tabOk zeroOk rfl rfl rfl rfl rfl (by decide) fun g => ?_)
       | (refine z_isbi ?_; first
       | (refine z_front rfl 2 rfl ?_; refine o_append rfl tabOk zeroOk rfl rfl rfl rfl rfl rfl (by first | exact own_rds 1 rfl | exact own_rds 0 rfl | exact hrd | exact cells_rds 0 rfl | exact cells_rds 1 rfl | exact own_rds 2 rfl | exact own_rds 3 rfl | assumption) (by first | rfl | rfl | (simp; done)) (by first | rfl | rfl | (simp; done)) (by omega) (by omega) (by decide) fun A' c' => ?_))
       | refine o_move rfl (by decide) ?_
       | refine o_assign rfl (by decide) ?_
       | refine o_extract rfl rfl (by decide) ?_
       | refine o_field0 tabOk rfl rfl rfl rfl rfl (by decide) ?_))
    · have hy3 := hy2.skip has
      repeat' (first
       | ((refine z_isdst 6 ?_; refine o_alloca (e := 82) (vs := [.int .i64 0, .int .i64 0]) rfl (by kernel_rfl) (by decide) fun g6 => ?_))
       | ((refine z_isdst 16 ?_; refine o_entry rfl 2 rfl (by decide) ?_))
       | (refine s_is ?_; first
       | (refine s_isagain ?_; first
       | (exact c_again (A, c, out, L', some (a, q, f, x)) hy3 (by dsimp only; rw [List.length_cons]; omega) ⟨rfl, rfl, rfl, rfl, trivial⟩ (fun w h => ((h.sel 4 [1, 2, 3, 0] (by decide)).mask [true, true, true, false]))))
       | (refine s_isw ?_; first
       | refine c_seq ?_
       | refine c_block ?_
       | refine c_region ?_
       | refine c_skip ?_
       | (refine s_iscond ?_; first
       | (refine c_true rfl (by first | with_reducible rfl | with_reducible assumption | ((with_reducible refine decide_eq_true ?_); first | with_reducible rfl | with_reducible assumption | omega)) ?_)
       | (refine c_false rfl (by first | with_reducible rfl | with_reducible assumption | ((with_reducible refine decide_eq_false ?_); first | with_reducible assumption | omega)) ?_))))
       | (refine z_isnil ?_; first
       | refine z_list ?_)
       | (refine z_isop ?_; first
       | (refine z_isbin ?_; first
       | (refine z_isb .eql ?_; first
       | refine o_eq rfl rfl (by decide) ?_))
       | (refine z_isload ?_; first
       | (refine z_ld1 tabOk rfl rfl ?_; first
       | refine o_loadm tabOk rfl rfl rfl (by repeat' (first | exact List.mem_cons_self | apply List.mem_cons_of_mem)) (by first | rfl | rfl) (by decide) ?_))
       | (refine z_isstore ?_; first
       | (refine z_stw rfl ?_; first
       | ((refine z_sti 0 rfl rfl ?_; refine o_storeb0 rfl tabOk rfl rfl rfl (by first | rfl | rfl) (by first | rfl | rfl) (by first | rfl | rfl) ?_))))
       | refine o_move rfl (by decide) ?_
       | refine o_extract rfl rfl (by decide) ?_
       | refine o_field0 tabOk rfl rfl rfl rfl rfl (by decide) ?_))
end Go.Proofs.Ytnckabgaichkkaa
