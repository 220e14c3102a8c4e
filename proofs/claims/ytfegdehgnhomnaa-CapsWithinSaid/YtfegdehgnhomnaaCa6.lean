/-
Caps: the law's own probe; the law of a nil tree.
-/
import Derived.Test.YtfegdehgnhomnaaCa5
import Derived.Test.YtfegdehgnhomnaaOpen
namespace Go.Proofs.Ytfegdehgnhomnaa
set_option linter.unusedVariables false
set_option linter.unusedSimpArgs false
open Eng
theorem does_perm {P : Program} {f : FuncId} {vs : List Value} {pr pr' : List Chunk} {X : Type} {ok : X → Prop} {v : X → Value} {po : X → List Chunk} (h : Does P f vs pr ok v po) (hp : pr'.Perm pr) : Does P f vs pr' ok v po := fun w hw =>
  (h w (hw.perm hp)).mono fun e w' ⟨x, hok, he, hS⟩ => ⟨x, hok, he, ⟨hS.os, hS.tape, hS.output, hS.size, hS.all, hS.apart, fun c hc k hk => (hS.new c hc k hk).imp (fun ⟨d, hd, hk⟩ => ⟨d, hp.mem_iff.2 hd, hk⟩) id, fun k hk hno => hS.rest k hk fun d hd => hno d (hp.mem_iff.2 hd)⟩⟩
def aT0 (A : Option Addr) (c : Nat) : Tq := upd Tq.zero 0 ⟨1, -1, A, c, ofS 0 10⟩
def aT1 (A : Option Addr) (c : Nat) (S : Option Addr) (d : Nat) : Tq := upd (aT0 A c) 1 ⟨2, 0, S, d, ofS 2 6⟩
def aT2 (A : Option Addr) (c : Nat) (S : Option Addr) (d : Nat) : Tq := upd (aT1 A c S d) 1 Cq.zero
theorem al_pos {s : Nat → Bool} {j : Nat} (hj : j < 1024) (h : s j = true) : (al s 1024).length ≠ 0 := fun e => by
  have : (j : Int) ∈ al s 1024 := (al_mem s j 1024).2 ⟨by omega, by omega, by rw [Int.toNat_natCast]; exact h⟩
  rw [List.eq_nil_of_length_eq_zero e] at this
  simp at this
theorem aw_in1 : layS 1 (ofS 2 6) (ofS 0 10) = emp := by
  funext j
  show (ofS 2 6 j && !ofS 0 10 j) = false
  unfold ofS
  by_cases a : (2 : Int) ≤ j <;> by_cases b : (j : Int) < 6 <;> by_cases c : (0 : Int) ≤ j <;> by_cases d : (j : Int) < 10 <;> simp [a, b, c, d] <;> omega
theorem aw_in2 : layS 1 (ofS 4 7) (ofS 0 10) = emp := by
  funext j
  show (ofS 4 7 j && !ofS 0 10 j) = false
  unfold ofS
  by_cases a : (4 : Int) ≤ j <;> by_cases b : (j : Int) < 7 <;> by_cases c : (0 : Int) ≤ j <;> by_cases d : (j : Int) < 10 <;> simp [a, b, c, d] <;> omega
theorem aw_k0 (A : Option Addr) (c : Nat) : kd' (aT0 A c) 0 64 = [] := by kernel_rfl
theorem aw_k1 (A : Option Addr) (c : Nat) (S : Option Addr) (d : Nat) : kd' (aT1 A c S d) 0 64 = [1] := by kernel_rfl
theorem aw_k2 (A : Option Addr) (c : Nat) (S : Option Addr) (d : Nat) : kd' (aT1 A c S d) 1 64 = [] := by kernel_rfl
theorem aw_lv (A : Option Addr) (c : Nat) (S : Option Addr) (d : Nat) : lv (aT2 A c S d) 64 = 1 := by kernel_rfl
theorem aw_i0 (A : Option Addr) (c : Nat) : isN (aT0 A c) 0 1 := ⟨by decide, by decide, by decide, rfl⟩
theorem aw_i1 (A : Option Addr) (c : Nat) (S : Option Addr) (d : Nat) : isN (aT1 A c S d) 0 1 := ⟨by decide, by decide, by decide, rfl⟩
theorem aw_i2 (A : Option Addr) (c : Nat) (S : Option Addr) (d : Nat) : isN (aT1 A c S d) (1 : Nat) 2 := ⟨by decide, by decide, by decide, rfl⟩
theorem rds_emp (fr : List Chunk) : Rds fr none (rc (rws emp)) := by rw [rws_emp, rc_nil]; exact Rds.nil _ _
theorem al_zero' (fr : List Chunk) : Al fr Tq.zero := fun i hi => rds_emp fr
theorem aw_a0 {fr : List Chunk} {A : Option Addr} {c : Nat} (hA : Rds fr A (rc (rws (ofS 0 10)))) : Al fr (aT0 A c) := (al_zero' fr).upd hA
theorem aw_a1 {fr : List Chunk} {A S : Option Addr} {c d : Nat} (hA : Rds fr A (rc (rws (ofS 0 10)))) (hS : Rds fr S (rc (rws (ofS 2 6)))) : Al fr (aT1 A c S d) := (aw_a0 hA).upd hS
theorem aw_l0 (A : Option Addr) (c : Nat) : layS 2 (ofS 2 6) (lnt (aT0 A c) 0) = emp := by
  unfold lnt
  rw [aw_k0]
  funext j
  show (ofS 2 6 j && emp j) = false
  exact Bool.and_false _
theorem aw_l1 (A : Option Addr) (c : Nat) (S : Option Addr) (d : Nat) : (al (layS 2 (ofS 4 7) (lnt (aT1 A c S d) 0)) 1024).length ≠ 0 := by
  unfold lnt
  rw [aw_k1]
  exact al_pos (j := 4) (by decide) rfl
theorem aw_new (A : Option Addr) (c : Nat) (fr : List Chunk) : Does Try.prog 7 [.agg #[.slice A (rws (ofS 0 10)).length c]] fr (fun _ : Nat => True) (fun b => .tuple #[.pointer (some ⟨b, 0, none⟩), cap 0 1]) (fun b => cells b 73 (tq (aT0 A c) 1) :: fr) := cnew_c (ofS 0 10) A c fr
theorem aw_d1 (A S : Option Addr) (c d b : Nat) (fr : List Chunk) (hA : Rds fr A (rc (rws (ofS 0 10)))) (hS : Rds fr S (rc (rws (ofS 2 6)))) : Does Try.prog 23 [.pointer (some ⟨b, 0, none⟩), cap 0 1, .agg #[.slice S (rws (ofS 2 6)).length d]] (cells b 73 (tq (aT0 A c) 1) :: fr) (fun _ : Unit => True) (fun _ => .tuple #[cap 1 2, .int .i64 0]) (fun _ => cells b 73 (tq (aT1 A c S d) 2) :: fr) :=
  derive_ok (aT0 A c) 1 0 1 b (ofS 2 6) emp S d fr (aw_a0 hA) hS (aw_i0 A c) (al_pos (j := 2) (by decide) rfl) (by show (al (layS 1 (ofS 2 6) (ofS 0 10)) 1024).length = 0; rw [aw_in1, al_emp]; rfl) (aw_l0 A c) (by rw [al_emp]; rfl) 1 (by decide) rfl (fun j hj => by
    have : j = 0 := by omega
    subst this; exact (by decide : (1 : Int) ≠ 0)) (by decide) (by decide)
theorem aw_d2 (A S R : Option Addr) (c d e b : Nat) (fr : List Chunk) (hA : Rds fr A (rc (rws (ofS 0 10)))) (hS : Rds fr S (rc (rws (ofS 2 6)))) (hR : Rds fr R (rc (rws (ofS 4 7)))) : Does Try.prog 23 [.pointer (some ⟨b, 0, none⟩), cap 0 1, .agg #[.slice R (rws (ofS 4 7)).length e]] (cells b 73 (tq (aT1 A c S d) 2) :: fr) (fun _ : Unit => True) (fun _ => .tuple #[cap 0 0, .int .i64 24]) (fun _ => cells b 73 (tq (aT1 A c S d) 2) :: fr) :=
  derive_busy (aT1 A c S d) 2 0 1 b (ofS 4 7) _ R e fr (aw_a1 hA hS) hR (aw_i1 A c S d) (al_pos (j := 4) (by decide) rfl) (by show (al (layS 1 (ofS 4 7) (ofS 0 10)) 1024).length = 0; rw [aw_in2, al_emp]; rfl) rfl (aw_l1 A c S d)
theorem aw_rvF (A S : Option Addr) (c d : Nat) : rvF 2 (aT1 A c S d) (0 : Nat) 1 = some (aT2 A c S d, 1) := by
  have h1 : rvF 1 (aT1 A c S d) 1 2 = some (aT1 A c S d, 0) := by
    unfold rvF
    rw [if_pos (aw_i2 A c S d), show kd' (aT1 A c S d) ((1 : Nat) : Int) 64 = [] from aw_k2 A c S d]
    rfl
  unfold rvF
  rw [if_pos (show isN (aT1 A c S d) ((0 : Nat) : Int) 1 from aw_i1 A c S d), show kd' (aT1 A c S d) ((0 : Nat) : Int) 64 = [1] from aw_k1 A c S d]
  show rvS (rvF 1) (aT1 A c S d) [1] 1 = _
  unfold rvS
  rw [rvS_zero]
  show (match rvF 1 (aT1 A c S d) 1 2 with | none => none | some (T1, m) => some (upd T1 1 Cq.zero, 0 + (m + 1))) = _
  rw [h1]; rfl
theorem aw_rv (A S : Option Addr) (c d b : Nat) : Does Try.prog 24 [.pointer (some ⟨b, 0, none⟩), cap 0 1] [cells b 73 (tq (aT1 A c S d) 2)] (fun _ : Unit => True) (fun _ => .tuple #[.int .i64 1, .int .i64 0]) (fun _ => [cells b 73 (tq (aT2 A c S d) 2)]) := by
  have h := revoke_c 2 b 2 (aT1 A c S d) 0 1 (aT2 A c S d) 1 (aw_rvF A S c d) (by decide)
  rw [if_pos (show isN (aT1 A c S d) ((0 : Nat) : Int) 1 from aw_i1 A c S d)] at h
  exact h
theorem aw_len (A S : Option Addr) (c d b : Nat) (fr : List Chunk) (hrd : Rds fr (some ⟨b, 0, none⟩) (tq (aT2 A c S d) 2)) : Does Try.prog 26 [.pointer (some ⟨b, 0, none⟩)] fr (fun _ : Unit => True) (fun _ => .int .i64 1) (fun _ => fr) := by
  have h := clen_c (aT2 A c S d) 2 b fr hrd
  rw [aw_lv] at h
  exact h
theorem slen_nil : Pf Try.prog 16 [.agg #[.slice none 0 0]] (.int .i64 0) := by
  have h := slen_e none 0 [] (rds_emp [])
  rw [rws_emp] at h
  exact h
attribute [local irreducible] Eng.Hold Eng.Z Eng.S Eng.cells Eng.old Eng.own rc rws tq tqn Cq.cs emp
attribute [local irreducible] kd' kc lv zt ls layS rvS rvF lnt al ofS aT0 aT1 aT2
set_option maxHeartbeats 4000000 in
theorem cawake_p : Pf Try.prog 18 [] (.bool true) := by
  intro w hw
  refine f_enter Try.func18 rfl Try.ntmps18 rfl hw ?_
  repeat' (first
   | ((refine z_isdst 10 ?_; refine o_calla Try.func8 rfl rfl rfl (of_s 0 10 _) (by decide) fun x _ => ?_; obtain ⟨A, c⟩ := x; dsimp only))
   | ((refine z_isdst 11 ?_; refine o_calla Try.func7 rfl rfl rfl (aw_new A c _) (by decide) fun b _ => ?_))
   | ((refine s_sel 2 [1, 0] (by decide) ?_; refine c_free1 ⟨[17, 18], [3]⟩ [0, 1, 7, 2, 3, 4, 5, 6, 8, 9] (id := 2) mixed (by kernel_rfl) ?_))
   | ((refine z_isdst 3 ?_; refine m_alloca (e := 26) (vs := [.int .i64 0, .int .u64 0]) (by kernel_rfl) ?_))
   | ((refine z_isdst 17 ?_; refine o_callx1 Try.func8 rfl rfl rfl (of_s 2 6 _) (by decide) (by decide) fun y _ => ?_; obtain ⟨S, d⟩ := y; dsimp only))
   | ((refine z_isdst 18 ?_; refine o_callx (po := fun _ => [cells b 73 (tq (aT1 A c S d) 2), own S d 75 2 (rws (ofS 2 6)).length (rc (rws (ofS 2 6)))]) Try.func23 rfl rfl rfl (does_perm (aw_d1 A S c d b _ (by first | exact own_rds 0 rfl | exact own_rds 1 rfl | exact own_rds 2 rfl | exact own_rds 3 rfl | exact own_rds 4 rfl | exact own_rds 5 rfl | exact own_rds 6 rfl | assumption) (by first | exact own_rds 0 rfl | exact own_rds 1 rfl | exact own_rds 2 rfl | exact own_rds 3 rfl | exact own_rds 4 rfl | exact own_rds 5 rfl | exact own_rds 6 rfl | assumption)) (List.Perm.swap _ _ _)) (by decide) (by decide) fun _ _ => ?_))
   | ((refine s_sel 2 [1, 0] (by decide) ?_; refine c_free1 ⟨[24, 25], [5]⟩ [0, 1, 7, 2, 3, 4, 5, 6, 8, 9] (id := 3) mixed (by kernel_rfl) ?_))
   | ((refine z_isdst 5 ?_; refine m_alloca (e := 26) (vs := [.int .i64 0, .int .u64 0]) (by kernel_rfl) ?_))
   | ((refine z_isdst 24 ?_; refine o_callx1 Try.func8 rfl rfl rfl (of_s 4 7 _) (by decide) (by decide) fun z _ => ?_; obtain ⟨R, e⟩ := z; dsimp only))
   | ((refine z_isdst 25 ?_; refine o_callx (po := fun _ => [cells b 73 (tq (aT1 A c S d) 2), own R e 75 2 (rws (ofS 4 7)).length (rc (rws (ofS 4 7)))]) Try.func23 rfl rfl rfl (does_perm (aw_d2 A S R c d e b _ (by first | exact own_rds 0 rfl | exact own_rds 1 rfl | exact own_rds 2 rfl | exact own_rds 3 rfl | exact own_rds 4 rfl | exact own_rds 5 rfl | exact own_rds 6 rfl | assumption) (by first | exact own_rds 0 rfl | exact own_rds 1 rfl | exact own_rds 2 rfl | exact own_rds 3 rfl | exact own_rds 4 rfl | exact own_rds 5 rfl | exact own_rds 6 rfl | assumption) (by first | exact own_rds 0 rfl | exact own_rds 1 rfl | exact own_rds 2 rfl | exact own_rds 3 rfl | exact own_rds 4 rfl | exact own_rds 5 rfl | exact own_rds 6 rfl | assumption)) (List.Perm.swap _ _ _)) (by decide) (by decide) fun _ _ => ?_))
   | refine z_mono1ww (by decide) fun g3 => ?_
   | ((refine z_isdst 31 ?_; refine z_front rfl 1 rfl ?_; refine o_call Try.func24 rfl rfl rfl (aw_rv A S c d b) (List.Perm.refl _) (by decide) fun _ _ => ?_))
   | ((refine z_isdst 50 ?_; refine o_callr rfl Try.func26 rfl rfl rfl (aw_len A S c d b _ (cells_rds 0 rfl)) (by decide) ?_))
   | ((refine z_isdst 2 ?_; refine o_alloca (e := 26) (vs := [.int .i64 0, .int .u64 0]) rfl (by kernel_rfl) (by decide) fun g2 => ?_))
   | (refine s_is ?_; first
   | (refine s_isret ?_; first
   | exact p_r1 rfl (res_t rfl))
   | (refine s_isw ?_; first
   | refine c_seq ?_
   | refine c_region ?_
   | refine c_ret ?_))
   | (refine z_isg1 ?_; first
   | (refine z_want1 rfl rfl (by first | with_reducible rfl | with_reducible assumption | ((with_reducible refine decide_eq_true ?_); first | with_reducible rfl | with_reducible assumption | omega)) ?_))
   | (refine z_isnil ?_; first
   | refine z_list ?_)
   | (refine z_isop ?_; first
   | refine m_inib tabOk (by decide) rfl (by decide) (fun _ => rfl) rfl rfl rfl rfl ?_
   | (refine z_isbin ?_; first
   | (refine z_isb .eql ?_; first
   | refine o_eq rfl rfl (by decide) ?_))
   | (refine z_isload ?_; first
   | (refine z_ldw tabOk rfl rfl ?_; first
   | (refine o_loadwm tabOk rfl rfl rfl (by repeat' (first | exact List.mem_cons_self | apply List.mem_cons_of_mem)) (by first | rfl | exact tq_len _ _ | exact cq_len _ | exact tqn_len _ | (simp only [tq_len, cq_len]; done) | rfl) (by decide) ?_)))
   | (refine z_isstore ?_; first
   | (refine z_stw rfl ?_; first
   | ((refine z_sti 0 rfl rfl ?_; refine o_storeb0 rfl tabOk rfl rfl rfl (by first | rfl | exact tq_len _ _ | exact cq_len _ | exact tqn_len _ | (simp only [tq_len, cq_len]; done) | rfl) (by first | rfl | exact tq_one _ _ | exact cq_one _ | rfl) (by first | rfl | exact tq_len _ _ | exact cq_len _ | exact tqn_len _ | (simp only [tq_len, cq_len]; done) | rfl) ?_))))
   | (refine z_ispick ?_; first
   | (refine o_pick1 rfl (by first | with_reducible rfl | with_reducible assumption | ((with_reducible refine decide_eq_true ?_); first | with_reducible rfl | with_reducible assumption | omega)) rfl (by decide) ?_))
   | refine o_move rfl (by decide) ?_
   | refine o_assign rfl (by decide) ?_
   | refine o_extract rfl rfl (by decide) ?_))
set_option maxHeartbeats 4000000 in
theorem capsNone (a g n : Int) (fr : List Chunk) : Does Try.prog 6 [.agg #[.int .i64 a, .int .u64 g], .int .i64 n] fr (fun _ : Unit => True) (fun _ => .bool true) (fun _ => fr) := by
  intro w hw
  refine f_enter Try.func6 rfl Try.ntmps6 rfl hw ?_
  repeat' (first
   | ((refine z_isdst 10 ?_; refine m_alloca (e := 26) (vs := [.int .i64 0, .int .u64 0]) (by kernel_rfl) ?_))
   | ((refine z_isdst 33 ?_; refine o_callx1 Try.func8 rfl rfl rfl (of_s 0 5 _) (by decide) (by decide) fun x _ => ?_))
   | refine z_mono1w (by decide) fun g10 => ?_
   | ((refine z_isdst 52 ?_; refine o_callx1 Try.func8 rfl rfl rfl (of_s 0 5 _) (by decide) (by decide) fun y _ => ?_))
   | refine z_mono0w ?_
   | ((refine z_isdst 2 ?_; refine o_boxa (vs := [.int .i64 a, .int .u64 g]) rfl rfl (by decide) fun g2 => ?_))
   | ((refine z_isdst 6 ?_; refine o_alloca (e := 31) (vs := [.slice none 0 0]) rfl (by kernel_rfl) (by decide) fun g6 => ?_))
   | ((refine z_isdst 8 ?_; refine o_alloca (e := 26) (vs := [.int .i64 0, .int .u64 0]) rfl (by kernel_rfl) (by decide) fun g8 => ?_))
   | (refine s_is ?_; first
   | (refine c_free0 ⟨[33], [10]⟩ [0, 1, 7, 2, 3, 4, 5, 6, 8, 9] (id := 4) mixed (by kernel_rfl) ?_)
   | (refine c_free0 ⟨[52], []⟩ [0, 1, 2, 3, 4, 5, 6, 7, 8] (id := 7) mixed (by kernel_rfl) ?_)
   | (refine s_isret ?_; first
   | exact f_r1 rfl (res_t rfl) () trivial rfl (fun w h => h.sub (List.sublist_append_right [_, _, _, _, _, _] _)))
   | (refine s_isw ?_; first
   | refine c_seq ?_
   | refine c_region ?_
   | refine c_mixed mixed (by kernel_rfl) ?_
   | refine c_ret ?_))
   | (refine z_isg1 ?_; first
   | (refine z_want1 rfl rfl (by first | with_reducible rfl | with_reducible assumption | ((with_reducible refine decide_eq_true ?_); first | with_reducible rfl | with_reducible assumption | omega)) ?_)
   | (refine z_want1 rfl rfl (by first | (simp only [Bool.not_eq_true', decide_eq_false_iff_not]; omega) | (with_reducible assumption) | (rw [decide_eq_false] <;> (first | omega | with_reducible rfl)) | (rw [decide_eq_true] <;> (first | omega | with_reducible rfl)) | (simp; done) | (simp; omega)) ?_))
   | (refine z_isnil ?_; first
   | refine z_list ?_
   | refine z_mixed ?_)
   | (refine z_isop ?_; first
   | refine m_inib tabOk (by decide) rfl (by decide) (fun _ => rfl) rfl rfl rfl rfl ?_
   | (refine z_isbin ?_; first
   | (refine z_isb .add ?_; first
   | refine o_add rfl rfl (by omega) (by omega) (by decide) ?_)
   | (refine z_isb .eql ?_; first
   | refine o_eq rfl rfl (by decide) ?_))
   | (refine z_isload ?_; first
   | (refine z_ldw tabOk rfl rfl ?_; first
   | (refine o_loadwm tabOk rfl rfl rfl (by repeat' (first | exact List.mem_cons_self | apply List.mem_cons_of_mem)) (by first | rfl | exact tq_len _ _ | exact cq_len _ | exact tqn_len _ | (simp only [tq_len, cq_len]; done) | rfl) (by decide) ?_)))
   | (refine z_isstore ?_; first
   | (refine z_stw rfl ?_; first
   | ((refine z_sti 0 rfl rfl ?_; refine o_storeb0 rfl tabOk rfl rfl rfl (by first | rfl | exact tq_len _ _ | exact cq_len _ | exact tqn_len _ | (simp only [tq_len, cq_len]; done) | rfl) (by first | rfl | exact tq_one _ _ | exact cq_one _ | rfl) (by first | rfl | exact tq_len _ _ | exact cq_len _ | exact tqn_len _ | (simp only [tq_len, cq_len]; done) | rfl) ?_))))
   | (refine z_iscall ?_; first
   | ((refine z_iscallf 12 ?_; refine o_fn rfl Try.func12 rfl rfl rfl (set_nil _ _) (by decide) ?_))
   | ((refine z_iscallf 13 ?_; refine o_fn rfl Try.func13 rfl rfl rfl (parent_nil _ _) (by decide) ?_))
   | ((refine z_iscallf 23 ?_; refine o_fn rfl Try.func23 rfl rfl rfl (derive_nil _ _ _ _ _) (by decide) ?_))
   | ((refine z_iscallf 24 ?_; refine o_fn rfl Try.func24 rfl rfl rfl (revoke_nil _ _) (by decide) ?_))
   | ((refine z_iscallf 25 ?_; refine o_fn rfl Try.func25 rfl rfl rfl (drop_nil _ _) (by decide) ?_))
   | ((refine z_iscallf 22 ?_; refine o_fn rfl Try.func22 rfl rfl rfl (cut_nil _ _ _ _ _) (by decide) ?_))
   | ((refine z_iscallf 15 ?_; refine o_fn rfl Try.func15 rfl rfl rfl (kids_nil _ _) (by decide) ?_))
   | ((refine z_iscallf 17 ?_; refine o_fn rfl Try.func17 rfl rfl rfl (lent_nil _ _) (by decide) ?_))
   | ((refine z_iscallf 16 ?_; refine o_fn rfl Try.func16 rfl rfl rfl (slen_nil) (by decide) ?_))
   | ((refine z_iscallf 26 ?_; refine o_fn rfl Try.func26 rfl rfl rfl (clen_nil) (by decide) ?_))
   | ((refine z_iscallf 20 ?_; refine o_fn rfl Try.func20 rfl rfl rfl (over_nil _) (by decide) ?_))
   | ((refine z_iscallf 18 ?_; refine o_fn rfl Try.func18 rfl rfl rfl (cawake_p) (by decide) ?_)))
   | (refine z_ispick ?_; first
   | (refine o_pick1 rfl (by first | with_reducible rfl | with_reducible assumption | ((with_reducible refine decide_eq_true ?_); first | with_reducible rfl | with_reducible assumption | omega)) rfl (by decide) ?_)
   | (refine o_pick1 rfl (by first | (simp only [Bool.not_eq_true', decide_eq_false_iff_not]; omega) | (with_reducible assumption) | (rw [decide_eq_false] <;> (first | omega | with_reducible rfl)) | (rw [decide_eq_true] <;> (first | omega | with_reducible rfl)) | (simp; done) | (simp; omega)) rfl (by decide) ?_))
   | (refine z_isbi ?_; first
   | refine o_len tabOk rfl rfl (by decide) ?_)
   | refine o_move rfl (by decide) ?_
   | refine o_assign rfl (by decide) ?_
   | refine o_extract rfl rfl (by decide) ?_
   | refine o_not rfl (by decide) ?_))
end Go.Proofs.Ytfegdehgnhomnaa
