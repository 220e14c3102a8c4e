/-
Kill is never handled, and is done at once, whatever waits, and whatever is being handled: for every list of deeds, every address and every place, without a condition.
-/
import Derived.Test.YtjejnlfbonpfaaaDoorRows
import Derived.Test.YtjejnlfbonpfaaaDoorSigKill
import Derived.Test.YtjejnlfbonpfaaaDoorOpen
import Derived.Test.YtjejnlfbonpfaaaDoorTie
import Derived.Test.YtjejnlfbonpfaaaDoorCards
import Derived.SevenTiedAt
import Derived.LaidMore
import Derived.Stop.Joined
import Derived.WalkKit
import Derived.ProofKit
import Derived.OpenShut
import Derived.ShutString
import Derived.ChangeOld
import Derived.Below
import Derived.Carry
namespace Go.Proofs.YtjejnlfbonpfaaaDoor.sigKill
open Go.ChangeShapes Go.WideShapes Go.ChangeAt Go.RowKit Eng
set_option linter.unusedVariables false
set_option linter.unusedSimpArgs false

theorem own : ownKnob Tryd.prog.godebug = none := by kernel_rfl
theorem laidOut : laidOutB Tryd.prog = true := by kernel_rfl

theorem walk (W : World) (hL : laidMet Tryd.prog Rows.sigKillRow.laid W) (v0 : Value) (i0 : Is W (.slice (.parts [(1, .int .i64), (1, .int .i64), (1, .int .u32), (17, .parts [(16, .rows 16 1 (.int .u32)), (1, .int .u32)])])) [v0]) (v1 : Value) (i1 : Is W (.int .u32) [v1]) (cs2 : List Value) (i2 : Is W (.parts [(16, .rows 16 1 (.int .u32)), (1, .int .u32)]) cs2) :
    Calls Tryd.prog 4 #[v0, v1, .agg cs2.toArray] W fun e w' => e = .returned (.bool true) ∧ Below W.heap.size W w' := by
  obtain ⟨a, c, l, rfl, hlc, hm, hq, hrd⟩ := i0.list De.cs (fun d => 0 ≤ d.a) (fun r hr => de_open hr)
  obtain ⟨n, rfl, hn⟩ := i1.int_inv
  obtain ⟨cx, rfl⟩ := cx_open i2
  exact (sigKill W a c l n cx (Eng.old_rds hrd 0 rfl) (Eng.old_rds (of_laid hL) 0 rfl) (by unfold maxLen at hm; omega) hq (u32_nonneg hn)).law

theorem door_met (os : Os) (args : Array Value) : laidMetH Tryd.prog Rows.sigKillRow.laid ((World.doorLaid Tryd.prog 14 os).forCall (fun _ _ => 0) ⟨#[], args, []⟩).memory :=
  laidMetH_of_parts3 (fuel := 8) (laidMet_of_run' 8 (by kernel_rfl) (by kernel_rfl)) (by kernel_rfl) (by kernel_rfl)
set_option maxRecDepth 100000 in
theorem lifted (os : Os) (started : os.Started) (H : Type) (enc : TypeId × Value → H) :
    ReturnsInHanded {} Tryd.checked os 4 .any (fun w args => (Rows.sigKillSpec.pre enc Tryd.prog Tryd.f4 [] false w args ∧ laidMetH Tryd.prog Rows.sigKillRow.laid w) ∧ sizedMet enc Tryd.prog Tryd.f4 (OpenSpec.ofChange Rows.sigKillSpec) false w args) (Rows.sigKillSpec.post enc Tryd.prog Tryd.f4 false true false false) := by
  refine returnsInHanded_of_change_and (C := Tryd.checked) (X := fun w _ => laidMetH Tryd.prog Rows.sigKillRow.laid w) (fun _ _ _ hh h => h.of_heap hh) own started (by kernel_rfl) Tryd.func4
    (ChangeSpec.witness_shaped (enc := enc) (C := Tryd.checked) (os := os) (X := fun w _ => laidMetH Tryd.prog Rows.sigKillRow.laid w) false (World.doorLaid Tryd.prog 14 os) #[.slice none 0 0, .int .u32 0, .agg #[.int .u32 0, .int .u32 0, .int .u32 0, .int .u32 0, .int .u32 0, .int .u32 0, .int .u32 0, .int .u32 0, .int .u32 0, .int .u32 0, .int .u32 0, .int .u32 0, .int .u32 0, .int .u32 0, .int .u32 0, .int .u32 0, .int .u32 0]] 8 rfl (World.shaped_of_RefB (by kernel_rfl) (by kernel_rfl)) (by kernel_rfl) (by kernel_rfl) (by kernel_rfl) (door_met os _)) ?_
  intro W base args ds gs before hval0 hW hcnd _ hL0 _
  have hL : laidMet Tryd.prog Rows.sigKillRow.laid W := by rw [MakeChecks.laidMetH_plain _ _ _ (by kernel_rfl)] at hL0; exact hL0
  have hval : ∀ (j : Nat) t v, Tryd.f4.params[j]? = some t → args[j]? = some v → Value.okWide Tryd.prog W .any base t v := hval0
  have hW' := hW
  obtain ⟨p, q, hA0, hV, rfl, hfz, hnd⟩ := hW
  have hA : DataW.TrodAll enc Tryd.prog W 0 (fun _ => true) true Tryd.f4.params.toList args.toList ds p := hA0
  rw [Tryd.params4] at hA hval
  obtain ⟨v0, vs0, d0, ds0, p0, q0, hargs, rfl, rfl, h0, r0⟩ := trodAll_cons hA
  obtain ⟨v1, vs1, d1, ds1, p1, q1, rfl, rfl, rfl, h1, r1⟩ := trodAll_cons r0
  obtain ⟨v2, vs2, d2, ds2, p2, q2, rfl, rfl, rfl, h2, r2⟩ := trodAll_cons r1
  obtain ⟨rfl, rfl, rfl⟩ := trodAll_nil r2
  obtain rfl : args = #[v0, v1, v2] := by cases args; simp_all
  obtain ⟨rfl, rfl⟩ := trodVars_none hV
  have i0 : Is W (.slice (.parts [(1, .int .i64), (1, .int .i64), (1, .int .u32), (17, .parts [(16, .rows 16 1 (.int .u32)), (1, .int .u32)])])) v0.cells.toList := is_param (Fits.slice Tryd.underlying22 (Fits.ofParts Tryd.underlying38 (by kernel_rfl) (by kernel_rfl) (.cons (Fits.int Tryd.underlying3) (.cons (Fits.int Tryd.underlying3) (.cons (Fits.int Tryd.underlying23) (.cons (Fits.ofParts Tryd.underlying26 (by kernel_rfl) (by kernel_rfl) (.cons (Fits.rows Tryd.underlying24 (by kernel_rfl) (by kernel_rfl) (Fits.int Tryd.underlying23)) (.cons (Fits.int Tryd.underlying23) .nil))) .nil)))))) (hval 0 22 v0 rfl rfl) h0
  have lt0 : ∀ x ∈ p0, x.block < W.heap.size := by obtain ⟨m, hm⟩ := h0; exact DataW.trod_lt m _ _ _ hm
  obtain ⟨a0, l0, c0, rfl⟩ := okWide_slice Tryd.underlying22 (hval 0 22 v0 rfl rfl)
  have i1 : Is W (.int .u32) v1.cells.toList := is_param (Fits.int Tryd.underlying23) (hval 1 23 v1 rfl rfl) h1
  have lt1 : ∀ x ∈ p1, x.block < W.heap.size := by obtain ⟨m, hm⟩ := h1; exact DataW.trod_lt m _ _ _ hm
  obtain ⟨n1, rfl⟩ := okWide_int Tryd.underlying23 (hval 1 23 v1 rfl rfl)
  have i2 : Is W (.parts [(16, .rows 16 1 (.int .u32)), (1, .int .u32)]) v2.cells.toList := is_param (Fits.ofParts Tryd.underlying26 (by kernel_rfl) (by kernel_rfl) (.cons (Fits.rows Tryd.underlying24 (by kernel_rfl) (by kernel_rfl) (Fits.int Tryd.underlying23)) (.cons (Fits.int Tryd.underlying23) .nil))) (hval 2 26 v2 rfl rfl) h2
  have lt2 : ∀ x ∈ p2, x.block < W.heap.size := by obtain ⟨m, hm⟩ := h2; exact DataW.trod_lt m _ _ _ hm
  obtain ⟨cs2, rfl, i2⟩ := agg_of Tryd.underlying26 (hval 2 26 v2 rfl rfl) i2
  refine (walk W hL _ i0 _ i1 cs2 i2).mono fun e W' ⟨he, bel⟩ => ?_
  subst he
  exact ⟨_, rfl, _, _, _, [], _, [], hW', trodAll_mk1 (shut_bool Tryd.underlying4 _), (trodAll_cons_mk (Below.trod laidOut (by kernel_rfl) (of_decide_eq_true (by kernel_rfl)) h0 bel lt0) (trodAll_cons_mk (Below.trod laidOut (by kernel_rfl) (of_decide_eq_true (by kernel_rfl)) h1 bel lt1) (trodAll_cons_mk (Below.trod laidOut (by kernel_rfl) (of_decide_eq_true (by kernel_rfl)) h2 bel lt2) trodAll_mk0))), rfl, bel.frame _, fun h => by cases h⟩

theorem over : Rows.sigKillRow.holds Tryd.pinned (OpenSpec.ofChange Rows.sigKillSpec) :=
  OpenClaim.holds_of_wide 4 Tryd.f4 rfl rfl rfl rfl rfl rfl rfl ⟨rfl, rfl, rfl, rfl, rfl⟩ rfl rfl rfl rfl rfl (by kernel_rfl) Tryd.func4 (by kernel_rfl)
    (of_decide_eq_true (by kernel_rfl)) (by unfold Func.isWrapper; first | (rw [if_pos (by decide +kernel)]; kernel_rfl) | (rw [if_neg (by decide +kernel)]; exact ⟨rfl, rfl⟩))
    (fun os started H enc _ => lifted os started H enc)

theorem bare : Rows.SigKillSaid := over
theorem proved : Rows.SigKillCardSaid :=
  Claim7.holds_tied_plain_at .later [] [.data] true (true, "d242b27775e8fa67d824bf1b606e7081bd9eb34a0b5a744d10172f262c5ae31e") false
    bare (fun _ h => by cases h) (by kernel_rfl) (fun _ h => by cases h) sigKill_row_tie rfl ⟨rfl, rfl⟩ (by kernel_rfl) rfl
    (fun f fn hf hfn => by
      obtain rfl : f = 4 := Option.some.inj ((show Tryd.prog.funcNamed Rows.sigKillRow.func = some 4 by kernel_rfl).symm.trans hf) |>.symm
      obtain rfl : fn = Tryd.f4 := (Option.some.inj (Tryd.func4.symm.trans hfn)).symm
      exact ⟨by kernel_rfl, fun j t ht => by
        rw [Tryd.params4] at ht
        have hm : t ∈ ([22, 23, 26] : List TypeId) := by have := Array.mem_of_getElem? ht; simpa using this
        have hall : (([22, 23, 26] : List TypeId).all fun u => !Tryd.prog.wantsStandIn u) = true := by kernel_rfl
        exact (show Tryd.prog.wantsStandIn t = false by simpa using List.all_eq_true.1 hall t hm)⟩)
    (by kernel_rfl)
#print axioms proved
end Go.Proofs.YtjejnlfbonpfaaaDoor.sigKill
