/-
Behind Handle and Return a program is as it was, whatever it did meanwhile, and a signal that came meanwhile, but Kill, waits till then: for every list of deeds, all places and all numbers, without a condition.
-/
import Derived.Test.YtjejnlfbonpfaaaDoorRows
import Derived.Test.YtjejnlfbonpfaaaDoorSigBack
import Derived.Test.YtjejnlfbonpfaaaDoorOpen
import Derived.Test.YtjejnlfbonpfaaaDoorTie
import Derived.Test.YtjejnlfbonpfaaaDoorCards
import Derived.SevenTiedAt
import Derived.LaidMore
import Derived.Stop.Joined
import Derived.WalkKit
import Derived.ProofKit
import Derived.OpenShut
import Derived.ShutString
import Derived.ChangeOld
import Derived.Below
import Derived.Carry
namespace Go.Proofs.YtjejnlfbonpfaaaDoor.sigBack
open Go.ChangeShapes Go.WideShapes Go.ChangeAt Go.RowKit Eng
set_option linter.unusedVariables false
set_option linter.unusedSimpArgs false

theorem own : ownKnob Tryd.prog.godebug = none := by kernel_rfl
theorem laidOut : laidOutB Tryd.prog = true := by kernel_rfl

theorem walk (W : World) (hL : laidMet Tryd.prog Rows.sigBackRow.laid W) (v0 : Value) (i0 : Is W (.slice (.parts [(1, .int .i64), (1, .int .i64), (1, .int .u32), (17, .parts [(16, .rows 16 1 (.int .u32)), (1, .int .u32)])])) [v0]) (cs1 : List Value) (i1 : Is W (.parts [(16, .rows 16 1 (.int .u32)), (1, .int .u32)]) cs1) (cs2 : List Value) (i2 : Is W (.parts [(16, .rows 16 1 (.int .u32)), (1, .int .u32)]) cs2) (v3 : Value) (i3 : Is W (.int .i64) [v3]) (v4 : Value) (i4 : Is W (.int .i64) [v4]) :
    Calls Tryd.prog 3 #[v0, .agg cs1.toArray, .agg cs2.toArray, v3, v4] W fun e w' => e = .returned (.bool true) ∧ Below W.heap.size W w' := by
  obtain ⟨a, c, l, rfl, hlc, hm, hq, hrd⟩ := i0.list De.cs (fun d => 0 ≤ d.a) (fun r hr => de_open hr)
  obtain ⟨cx, rfl⟩ := cx_open i1
  obtain ⟨dx, rfl⟩ := cx_open i2
  obtain ⟨n, rfl, hn⟩ := i3.int_inv
  obtain ⟨m, rfl, hm2⟩ := i4.int_inv
  exact (sigBack W a c l cx dx n m (Eng.old_rds hrd 0 rfl) (Eng.old_rds (of_laid hL) 0 rfl) (by unfold maxLen at hm; omega) hq).law

theorem door_met (os : Os) (args : Array Value) : laidMetH Tryd.prog Rows.sigBackRow.laid ((World.doorLaid Tryd.prog 14 os).forCall (fun _ _ => 0) ⟨#[], args, []⟩).memory :=
  laidMetH_of_parts3 (fuel := 8) (laidMet_of_run' 8 (by kernel_rfl) (by kernel_rfl)) (by kernel_rfl) (by kernel_rfl)
set_option maxRecDepth 100000 in
theorem lifted (os : Os) (started : os.Started) (H : Type) (enc : TypeId × Value → H) :
    ReturnsInHanded {} Tryd.checked os 3 .any (fun w args => (Rows.sigBackSpec.pre enc Tryd.prog Tryd.f3 [] false w args ∧ laidMetH Tryd.prog Rows.sigBackRow.laid w) ∧ sizedMet enc Tryd.prog Tryd.f3 (OpenSpec.ofChange Rows.sigBackSpec) false w args) (Rows.sigBackSpec.post enc Tryd.prog Tryd.f3 false true false false) := by
  refine returnsInHanded_of_change_and (C := Tryd.checked) (X := fun w _ => laidMetH Tryd.prog Rows.sigBackRow.laid w) (fun _ _ _ hh h => h.of_heap hh) own started (by kernel_rfl) Tryd.func3
    (ChangeSpec.witness_shaped (enc := enc) (C := Tryd.checked) (os := os) (X := fun w _ => laidMetH Tryd.prog Rows.sigBackRow.laid w) false (World.doorLaid Tryd.prog 14 os) #[.slice none 0 0, .agg #[.int .u32 0, .int .u32 0, .int .u32 0, .int .u32 0, .int .u32 0, .int .u32 0, .int .u32 0, .int .u32 0, .int .u32 0, .int .u32 0, .int .u32 0, .int .u32 0, .int .u32 0, .int .u32 0, .int .u32 0, .int .u32 0, .int .u32 0], .agg #[.int .u32 0, .int .u32 0, .int .u32 0, .int .u32 0, .int .u32 0, .int .u32 0, .int .u32 0, .int .u32 0, .int .u32 0, .int .u32 0, .int .u32 0, .int .u32 0, .int .u32 0, .int .u32 0, .int .u32 0, .int .u32 0, .int .u32 0], .int .i64 0, .int .i64 0] 8 rfl (World.shaped_of_RefB (by kernel_rfl) (by kernel_rfl)) (by kernel_rfl) (by kernel_rfl) (by kernel_rfl) (door_met os _)) ?_
  intro W base args ds gs before hval0 hW hcnd _ hL0 _
  have hL : laidMet Tryd.prog Rows.sigBackRow.laid W := by rw [MakeChecks.laidMetH_plain _ _ _ (by kernel_rfl)] at hL0; exact hL0
  have hval : ∀ (j : Nat) t v, Tryd.f3.params[j]? = some t → args[j]? = some v → Value.okWide Tryd.prog W .any base t v := hval0
  have hW' := hW
  obtain ⟨p, q, hA0, hV, rfl, hfz, hnd⟩ := hW
  have hA : DataW.TrodAll enc Tryd.prog W 0 (fun _ => true) true Tryd.f3.params.toList args.toList ds p := hA0
  rw [Tryd.params3] at hA hval
  obtain ⟨v0, vs0, d0, ds0, p0, q0, hargs, rfl, rfl, h0, r0⟩ := trodAll_cons hA
  obtain ⟨v1, vs1, d1, ds1, p1, q1, rfl, rfl, rfl, h1, r1⟩ := trodAll_cons r0
  obtain ⟨v2, vs2, d2, ds2, p2, q2, rfl, rfl, rfl, h2, r2⟩ := trodAll_cons r1
  obtain ⟨v3, vs3, d3, ds3, p3, q3, rfl, rfl, rfl, h3, r3⟩ := trodAll_cons r2
  obtain ⟨v4, vs4, d4, ds4, p4, q4, rfl, rfl, rfl, h4, r4⟩ := trodAll_cons r3
  obtain ⟨rfl, rfl, rfl⟩ := trodAll_nil r4
  obtain rfl : args = #[v0, v1, v2, v3, v4] := by cases args; simp_all
  obtain ⟨rfl, rfl⟩ := trodVars_none hV
  have i0 : Is W (.slice (.parts [(1, .int .i64), (1, .int .i64), (1, .int .u32), (17, .parts [(16, .rows 16 1 (.int .u32)), (1, .int .u32)])])) v0.cells.toList := is_param (Fits.slice Tryd.underlying22 (Fits.ofParts Tryd.underlying38 (by kernel_rfl) (by kernel_rfl) (.cons (Fits.int Tryd.underlying3) (.cons (Fits.int Tryd.underlying3) (.cons (Fits.int Tryd.underlying23) (.cons (Fits.ofParts Tryd.underlying26 (by kernel_rfl) (by kernel_rfl) (.cons (Fits.rows Tryd.underlying24 (by kernel_rfl) (by kernel_rfl) (Fits.int Tryd.underlying23)) (.cons (Fits.int Tryd.underlying23) .nil))) .nil)))))) (hval 0 22 v0 rfl rfl) h0
  have lt0 : ∀ x ∈ p0, x.block < W.heap.size := by obtain ⟨m, hm⟩ := h0; exact DataW.trod_lt m _ _ _ hm
  obtain ⟨a0, l0, c0, rfl⟩ := okWide_slice Tryd.underlying22 (hval 0 22 v0 rfl rfl)
  have i1 : Is W (.parts [(16, .rows 16 1 (.int .u32)), (1, .int .u32)]) v1.cells.toList := is_param (Fits.ofParts Tryd.underlying26 (by kernel_rfl) (by kernel_rfl) (.cons (Fits.rows Tryd.underlying24 (by kernel_rfl) (by kernel_rfl) (Fits.int Tryd.underlying23)) (.cons (Fits.int Tryd.underlying23) .nil))) (hval 1 26 v1 rfl rfl) h1
  have lt1 : ∀ x ∈ p1, x.block < W.heap.size := by obtain ⟨m, hm⟩ := h1; exact DataW.trod_lt m _ _ _ hm
  obtain ⟨cs1, rfl, i1⟩ := agg_of Tryd.underlying26 (hval 1 26 v1 rfl rfl) i1
  have i2 : Is W (.parts [(16, .rows 16 1 (.int .u32)), (1, .int .u32)]) v2.cells.toList := is_param (Fits.ofParts Tryd.underlying26 (by kernel_rfl) (by kernel_rfl) (.cons (Fits.rows Tryd.underlying24 (by kernel_rfl) (by kernel_rfl) (Fits.int Tryd.underlying23)) (.cons (Fits.int Tryd.underlying23) .nil))) (hval 2 26 v2 rfl rfl) h2
  have lt2 : ∀ x ∈ p2, x.block < W.heap.size := by obtain ⟨m, hm⟩ := h2; exact DataW.trod_lt m _ _ _ hm
  obtain ⟨cs2, rfl, i2⟩ := agg_of Tryd.underlying26 (hval 2 26 v2 rfl rfl) i2
  have i3 : Is W (.int .i64) v3.cells.toList := is_param (Fits.int Tryd.underlying3) (hval 3 3 v3 rfl rfl) h3
  have lt3 : ∀ x ∈ p3, x.block < W.heap.size := by obtain ⟨m, hm⟩ := h3; exact DataW.trod_lt m _ _ _ hm
  obtain ⟨n3, rfl⟩ := okWide_int Tryd.underlying3 (hval 3 3 v3 rfl rfl)
  have i4 : Is W (.int .i64) v4.cells.toList := is_param (Fits.int Tryd.underlying3) (hval 4 3 v4 rfl rfl) h4
  have lt4 : ∀ x ∈ p4, x.block < W.heap.size := by obtain ⟨m, hm⟩ := h4; exact DataW.trod_lt m _ _ _ hm
  obtain ⟨n4, rfl⟩ := okWide_int Tryd.underlying3 (hval 4 3 v4 rfl rfl)
  refine (walk W hL _ i0 cs1 i1 cs2 i2 _ i3 _ i4).mono fun e W' ⟨he, bel⟩ => ?_
  subst he
  exact ⟨_, rfl, _, _, _, [], _, [], hW', trodAll_mk1 (shut_bool Tryd.underlying4 _), (trodAll_cons_mk (Below.trod laidOut (by kernel_rfl) (of_decide_eq_true (by kernel_rfl)) h0 bel lt0) (trodAll_cons_mk (Below.trod laidOut (by kernel_rfl) (of_decide_eq_true (by kernel_rfl)) h1 bel lt1) (trodAll_cons_mk (Below.trod laidOut (by kernel_rfl) (of_decide_eq_true (by kernel_rfl)) h2 bel lt2) (trodAll_cons_mk (Below.trod laidOut (by kernel_rfl) (of_decide_eq_true (by kernel_rfl)) h3 bel lt3) (trodAll_cons_mk (Below.trod laidOut (by kernel_rfl) (of_decide_eq_true (by kernel_rfl)) h4 bel lt4) trodAll_mk0))))), rfl, bel.frame _, fun h => by cases h⟩

theorem over : Rows.sigBackRow.holds Tryd.pinned (OpenSpec.ofChange Rows.sigBackSpec) :=
  OpenClaim.holds_of_wide 3 Tryd.f3 rfl rfl rfl rfl rfl rfl rfl ⟨rfl, rfl, rfl, rfl, rfl⟩ rfl rfl rfl rfl rfl (by kernel_rfl) Tryd.func3 (by kernel_rfl)
    (of_decide_eq_true (by kernel_rfl)) (by unfold Func.isWrapper; first | (rw [if_pos (by decide +kernel)]; kernel_rfl) | (rw [if_neg (by decide +kernel)]; exact ⟨rfl, rfl⟩))
    (fun os started H enc _ => lifted os started H enc)

theorem bare : Rows.SigBackSaid := over
theorem proved : Rows.SigBackCardSaid :=
  Claim7.holds_tied_plain_at .later [] [.data] true (true, "d242b27775e8fa67d824bf1b606e7081bd9eb34a0b5a744d10172f262c5ae31e") false
    bare (fun _ h => by cases h) (by kernel_rfl) (fun _ h => by cases h) sigBack_row_tie rfl ⟨rfl, rfl⟩ (by kernel_rfl) rfl
    (fun f fn hf hfn => by
      obtain rfl : f = 3 := Option.some.inj ((show Tryd.prog.funcNamed Rows.sigBackRow.func = some 3 by kernel_rfl).symm.trans hf) |>.symm
      obtain rfl : fn = Tryd.f3 := (Option.some.inj (Tryd.func3.symm.trans hfn)).symm
      exact ⟨by kernel_rfl, fun j t ht => by
        rw [Tryd.params3] at ht
        have hm : t ∈ ([22, 26, 26, 3, 3] : List TypeId) := by have := Array.mem_of_getElem? ht; simpa using this
        have hall : (([22, 26, 26, 3, 3] : List TypeId).all fun u => !Tryd.prog.wantsStandIn u) = true := by kernel_rfl
        exact (show Tryd.prog.wantsStandIn t = false by simpa using List.all_eq_true.1 hall t hm)⟩)
    (by kernel_rfl)
#print axioms proved
end Go.Proofs.YtjejnlfbonpfaaaDoor.sigBack
