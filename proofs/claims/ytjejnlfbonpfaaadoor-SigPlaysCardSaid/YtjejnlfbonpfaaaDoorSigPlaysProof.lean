/-
Whatever is raised, set, done and returned from, a program's signals are the document's at each moment, and what is to be done; the state ahead stays as it was: for every list of deeds, without a condition.
-/
import Derived.Test.YtjejnlfbonpfaaaDoorRows
import Derived.Test.YtjejnlfbonpfaaaDoorSigPlays
import Derived.Test.YtjejnlfbonpfaaaDoorOpen
import Derived.Test.YtjejnlfbonpfaaaDoorTie
import Derived.Test.YtjejnlfbonpfaaaDoorCards
import Derived.SevenTiedAt
import Derived.LaidMore
import Derived.Stop.Joined
import Derived.WalkKit
import Derived.ProofKit
import Derived.OpenShut
import Derived.ShutString
import Derived.ChangeOld
import Derived.Below
import Derived.Carry
namespace Go.Proofs.YtjejnlfbonpfaaaDoor.sigPlays
open Go.ChangeShapes Go.WideShapes Go.ChangeAt Go.RowKit Eng
set_option linter.unusedVariables false
set_option linter.unusedSimpArgs false

theorem own : ownKnob Tryd.prog.godebug = none := by kernel_rfl
theorem laidOut : laidOutB Tryd.prog = true := by kernel_rfl

theorem walk (W : World) (hL : laidMet Tryd.prog Rows.sigPlaysRow.laid W) (v0 : Value) (i0 : Is W (.slice (.parts [(1, .int .i64), (1, .int .i64), (1, .int .u32), (17, .parts [(16, .rows 16 1 (.int .u32)), (1, .int .u32)])])) [v0]) :
    Calls Tryd.prog 5 #[v0] W fun e w' => e = .returned (.bool true) ∧ Below W.heap.size W w' := by
  obtain ⟨a, c, l, rfl, hlc, hm, hq, hrd⟩ := i0.list De.cs (fun d => 0 ≤ d.a) (fun r hr => de_open hr)
  exact (sigPlays W a c l (Eng.old_rds hrd 0 rfl) (Eng.old_rds (of_laid hL) 0 rfl) (by unfold maxLen at hm; omega) hq).law

theorem door_met (os : Os) (args : Array Value) : laidMetH Tryd.prog Rows.sigPlaysRow.laid ((World.doorLaid Tryd.prog 14 os).forCall (fun _ _ => 0) ⟨#[], args, []⟩).memory :=
  laidMetH_of_parts3 (fuel := 8) (laidMet_of_run' 8 (by kernel_rfl) (by kernel_rfl)) (by kernel_rfl) (by kernel_rfl)
set_option maxRecDepth 100000 in
theorem lifted (os : Os) (started : os.Started) (H : Type) (enc : TypeId × Value → H) :
    ReturnsInHanded {} Tryd.checked os 5 .any (fun w args => (Rows.sigPlaysSpec.pre enc Tryd.prog Tryd.f5 [] false w args ∧ laidMetH Tryd.prog Rows.sigPlaysRow.laid w) ∧ sizedMet enc Tryd.prog Tryd.f5 (OpenSpec.ofChange Rows.sigPlaysSpec) false w args) (Rows.sigPlaysSpec.post enc Tryd.prog Tryd.f5 false true false false) := by
  refine returnsInHanded_of_change_and (C := Tryd.checked) (X := fun w _ => laidMetH Tryd.prog Rows.sigPlaysRow.laid w) (fun _ _ _ hh h => h.of_heap hh) own started (by kernel_rfl) Tryd.func5
    (ChangeSpec.witness_shaped (enc := enc) (C := Tryd.checked) (os := os) (X := fun w _ => laidMetH Tryd.prog Rows.sigPlaysRow.laid w) false (World.doorLaid Tryd.prog 14 os) #[.slice none 0 0] 8 rfl (World.shaped_of_RefB (by kernel_rfl) (by kernel_rfl)) (by kernel_rfl) (by kernel_rfl) (by kernel_rfl) (door_met os _)) ?_
  intro W base args ds gs before hval0 hW hcnd _ hL0 _
  have hL : laidMet Tryd.prog Rows.sigPlaysRow.laid W := by rw [MakeChecks.laidMetH_plain _ _ _ (by kernel_rfl)] at hL0; exact hL0
  have hval : ∀ (j : Nat) t v, Tryd.f5.params[j]? = some t → args[j]? = some v → Value.okWide Tryd.prog W .any base t v := hval0
  have hW' := hW
  obtain ⟨p, q, hA0, hV, rfl, hfz, hnd⟩ := hW
  have hA : DataW.TrodAll enc Tryd.prog W 0 (fun _ => true) true Tryd.f5.params.toList args.toList ds p := hA0
  rw [Tryd.params5] at hA hval
  obtain ⟨v0, vs0, d0, ds0, p0, q0, hargs, rfl, rfl, h0, r0⟩ := trodAll_cons hA
  obtain ⟨rfl, rfl, rfl⟩ := trodAll_nil r0
  obtain rfl : args = #[v0] := by cases args; simp_all
  obtain ⟨rfl, rfl⟩ := trodVars_none hV
  have i0 : Is W (.slice (.parts [(1, .int .i64), (1, .int .i64), (1, .int .u32), (17, .parts [(16, .rows 16 1 (.int .u32)), (1, .int .u32)])])) v0.cells.toList := is_param (Fits.slice Tryd.underlying22 (Fits.ofParts Tryd.underlying38 (by kernel_rfl) (by kernel_rfl) (.cons (Fits.int Tryd.underlying3) (.cons (Fits.int Tryd.underlying3) (.cons (Fits.int Tryd.underlying23) (.cons (Fits.ofParts Tryd.underlying26 (by kernel_rfl) (by kernel_rfl) (.cons (Fits.rows Tryd.underlying24 (by kernel_rfl) (by kernel_rfl) (Fits.int Tryd.underlying23)) (.cons (Fits.int Tryd.underlying23) .nil))) .nil)))))) (hval 0 22 v0 rfl rfl) h0
  have lt0 : ∀ x ∈ p0, x.block < W.heap.size := by obtain ⟨m, hm⟩ := h0; exact DataW.trod_lt m _ _ _ hm
  obtain ⟨a0, l0, c0, rfl⟩ := okWide_slice Tryd.underlying22 (hval 0 22 v0 rfl rfl)
  refine (walk W hL _ i0).mono fun e W' ⟨he, bel⟩ => ?_
  subst he
  exact ⟨_, rfl, _, _, _, [], _, [], hW', trodAll_mk1 (shut_bool Tryd.underlying4 _), (trodAll_cons_mk (Below.trod laidOut (by kernel_rfl) (of_decide_eq_true (by kernel_rfl)) h0 bel lt0) trodAll_mk0), rfl, bel.frame _, fun h => by cases h⟩

theorem over : Rows.sigPlaysRow.holds Tryd.pinned (OpenSpec.ofChange Rows.sigPlaysSpec) :=
  OpenClaim.holds_of_wide 5 Tryd.f5 rfl rfl rfl rfl rfl rfl rfl ⟨rfl, rfl, rfl, rfl, rfl⟩ rfl rfl rfl rfl rfl (by kernel_rfl) Tryd.func5 (by kernel_rfl)
    (of_decide_eq_true (by kernel_rfl)) (by unfold Func.isWrapper; first | (rw [if_pos (by decide +kernel)]; kernel_rfl) | (rw [if_neg (by decide +kernel)]; exact ⟨rfl, rfl⟩))
    (fun os started H enc _ => lifted os started H enc)

theorem bare : Rows.SigPlaysSaid := over
theorem proved : Rows.SigPlaysCardSaid :=
  Claim7.holds_tied_plain_at .later [] [.data] true (true, "d242b27775e8fa67d824bf1b606e7081bd9eb34a0b5a744d10172f262c5ae31e") false
    bare (fun _ h => by cases h) (by kernel_rfl) (fun _ h => by cases h) sigPlays_row_tie rfl ⟨rfl, rfl⟩ (by kernel_rfl) rfl
    (fun f fn hf hfn => by
      obtain rfl : f = 5 := Option.some.inj ((show Tryd.prog.funcNamed Rows.sigPlaysRow.func = some 5 by kernel_rfl).symm.trans hf) |>.symm
      obtain rfl : fn = Tryd.f5 := (Option.some.inj (Tryd.func5.symm.trans hfn)).symm
      exact ⟨by kernel_rfl, fun j t ht => by
        rw [Tryd.params5] at ht
        have hm : t ∈ ([22] : List TypeId) := by have := Array.mem_of_getElem? ht; simpa using this
        have hall : (([22] : List TypeId).all fun u => !Tryd.prog.wantsStandIn u) = true := by kernel_rfl
        exact (show Tryd.prog.wantsStandIn t = false by simpa using List.all_eq_true.1 hall t hm)⟩)
    (by kernel_rfl)
#print axioms proved
end Go.Proofs.YtjejnlfbonpfaaaDoor.sigPlays
