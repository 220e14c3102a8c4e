/-
The engine, sixth part: structs and arrays as values; cuts; conversions; bits.
-/
import Derived.Test.YtjejnlfbonpfaaaEng5
namespace Go.Proofs.Ytjejnlfbonpfaaa.Eng
set_option linter.unusedVariables false
set_option linter.unusedSimpArgs false
open Go
section
variable {P : Program} {ops : Array Oper} {md : Mode} {n : Nat} {l : Fr} {B : Base} {hp hq : List Chunk} {rest : List Oper} {o : Oper} {Q : Exit → Act → World → Prop} {F : Act → World → Prop}
variable {d : Nat} {ty : TypeId} {pos : String} {aft : Array Edge}
theorem o_build {t : Nat} {ps : List (Nat × Operand)} {pvs : List (Nat × Value)} {v : Value} (hx : evp l ps = some pvs) (hb : ∀ w, (Instr.build t pvs.toArray).run P w = .ok v w) (hd : d < n) (kk : Z P ops md n ((d, v) :: l) B hp rest) :
    Z P ops md n l B hp (⟨some d, .build t ps.toArray, ty, pos, aft, none⟩ :: rest) :=
  z_valp (Mode.fits_of rfl) rfl rfl hd (fun a w hA => by
    have hev : ps.toArray.map (fun p => (p.1, a.eval p.2)) = pvs.toArray := by rw [List.map_toArray, hA.evalp hx]
    simp only [execOp, hev, Sem.run_bind, hb w, Result.andThen, Sem.run_pure]) kk
theorem o_boxa {md : Mode} (hme : md.canX = true) {e : Nat} {x : Operand} {vs : List Value} (hx : ev l x = some (.agg vs.toArray)) (hd : d < n) (k : ∀ g, Z P ops md n ((d, .pointer (some ⟨g, 0, none⟩)) :: l) B (cells g e vs :: hp) rest) :
    Z P ops md n l B hp (⟨some d, .box e x, ty, pos, aft, none⟩ :: rest) := o_box hme hx hd k
/- bits, conversions -/
def bitv (op : BinOp) (k : IntKind) (i j : Int) : Int := match op with
  | .and => k.wrap (BitVec.ofInt k.bits i &&& BitVec.ofInt k.bits j).toNat
  | .or => k.wrap (BitVec.ofInt k.bits i ||| BitVec.ofInt k.bits j).toNat
  | .xor => k.wrap (BitVec.ofInt k.bits i ^^^ BitVec.ofInt k.bits j).toNat
  | _ => k.wrap (BitVec.ofInt k.bits i &&& ~~~(BitVec.ofInt k.bits j)).toNat
theorem o_and {t t' : Nat} {x y : Operand} {k : IntKind} {i j : Int} (hx : ev l x = some (.int k i)) (hy : ev l y = some (.int k j)) (hd : d < n) (kk : Z P ops md n ((d, .int k (bitv .and k i j)) :: l) B hp rest) :
    Z P ops md n l B hp (⟨some d, .binOp .and t x y t', ty, pos, aft, none⟩ :: rest) := o_bin hx hy hd (fun w => by simp [binOp, Op.intBits, Sem.run_pure, bitv]) kk
theorem o_or {t t' : Nat} {x y : Operand} {k : IntKind} {i j : Int} (hx : ev l x = some (.int k i)) (hy : ev l y = some (.int k j)) (hd : d < n) (kk : Z P ops md n ((d, .int k (bitv .or k i j)) :: l) B hp rest) :
    Z P ops md n l B hp (⟨some d, .binOp .or t x y t', ty, pos, aft, none⟩ :: rest) := o_bin hx hy hd (fun w => by simp [binOp, Op.intBits, Sem.run_pure, bitv]) kk
theorem o_andNot {t t' : Nat} {x y : Operand} {k : IntKind} {i j : Int} (hx : ev l x = some (.int k i)) (hy : ev l y = some (.int k j)) (hd : d < n) (kk : Z P ops md n ((d, .int k (bitv .andNot k i j)) :: l) B hp rest) :
    Z P ops md n l B hp (⟨some d, .binOp .andNot t x y t', ty, pos, aft, none⟩ :: rest) := o_bin hx hy hd (fun w => by simp [binOp, Op.intBits, Sem.run_pure, bitv]) kk
def shlv (k : IntKind) (i j : Int) : Int := k.wrap (i * 2 ^ (min j.toNat k.bits))
def shrv (k : IntKind) (i j : Int) : Int := i.fdiv (2 ^ (min j.toNat k.bits))
theorem o_shift {op : BinOp} {t t' : Nat} {x y : Operand} {k k' : IntKind} {i j : Int} {v : Value} (hx : ev l x = some (.int k i)) (hy : ev l y = some (.int k' j)) (hd : d < n) (hv : ∀ w, (binOp op t (.int k i) (.int k' j)).run P w = .ok v w) (kk : Z P ops md n ((d, v) :: l) B hp rest) :
    Z P ops md n l B hp (⟨some d, .binOp op t x y t', ty, pos, aft, none⟩ :: rest) :=
  z_valp (Mode.fits_of rfl) rfl rfl hd (fun a w hA => by simp [execOp, hA.eval hx, hA.eval hy, eqGuard_int, hv, Sem.run_bind, Sem.run_pure, Result.andThen]) kk
theorem o_shl {t t' : Nat} {x y : Operand} {k k' : IntKind} {i j : Int} (hx : ev l x = some (.int k i)) (hy : ev l y = some (.int k' j)) (h0 : 0 ≤ j) (hd : d < n) (kk : Z P ops md n ((d, .int k (shlv k i j)) :: l) B hp rest) :
    Z P ops md n l B hp (⟨some d, .binOp .shl t x y t', ty, pos, aft, none⟩ :: rest) := o_shift hx hy hd (fun w => by simp [binOp, Op.shift, Sem.run_pure, shlv, show ¬ j < 0 by omega]) kk
theorem o_shr {t t' : Nat} {x y : Operand} {k k' : IntKind} {i j : Int} (hx : ev l x = some (.int k i)) (hy : ev l y = some (.int k' j)) (h0 : 0 ≤ j) (hd : d < n) (kk : Z P ops md n ((d, .int k (shrv k i j)) :: l) B hp rest) :
    Z P ops md n l B hp (⟨some d, .binOp .shr t x y t', ty, pos, aft, none⟩ :: rest) := o_shift hx hy hd (fun w => by simp [binOp, Op.shift, Sem.run_pure, shrv, show ¬ j < 0 by omega]) kk
theorem o_conv {s t : Nat} {x : Operand} {k k' : IntKind} {i : Int} {a1 b1 a2 b2 : Nat} {ks : IntKind} {tab : List TRow} (hT : TabOk P tab) (hx : ev l x = some (.int k i)) (hs : nth tab s = some ⟨.int ks, a1, b1⟩) (ht : nth tab t = some ⟨.int k', a2, b2⟩) (hd : d < n)
    (kk : Z P ops md n ((d, .int k' (k'.wrap i)) :: l) B hp rest) : Z P ops md n l B hp (⟨some d, .convert s t x, ty, pos, aft, none⟩ :: rest) :=
  z_valp (Mode.fits_of rfl) rfl rfl hd (fun a w hA => by
    obtain ⟨d1, _, hu1, hk1, -⟩ := hT s _ hs
    obtain ⟨d2, _, hu2, hk2, -⟩ := hT t _ ht
    cases d1 <;> simp [kindOf] at hk1
    cases d2 <;> simp [kindOf] at hk2
    subst hk1 hk2
    simp [execOp, hA.eval hx, convert, run_underlying hu1, run_underlying hu2, Conv.intToInt, Sem.run_bind, Sem.run_pure, Result.andThen]) kk
theorem and63 (i : Int) : 0 ≤ bitv .and .i64 i 63 ∧ bitv .and .i64 i 63 ≤ 63 := by
  have h : (BitVec.ofInt 64 i &&& BitVec.ofInt 64 63).toNat ≤ 63 := by
    rw [BitVec.toNat_and]
    exact Nat.le_trans Nat.and_le_right (by decide)
  have e : bitv .and .i64 i 63 = ((BitVec.ofInt 64 i &&& BitVec.ofInt 64 63).toNat : Int) := by
    show IntKind.i64.wrap _ = _
    exact wrap64_id (by omega) (by
      have : ((BitVec.ofInt IntKind.i64.bits i &&& BitVec.ofInt IntKind.i64.bits 63).toNat : Int) ≤ 63 := by exact_mod_cast h
      omega)
  rw [e]
  omega
/-- A law's call: it returns true, and all that was in memory is as it was. -/
theorem Does.law {f : FuncId} {vs : List Value} {W : World} {v : Value} (h : Does P f vs [old W] (fun _ : Unit => True) (fun _ => v) (fun _ => [old W])) :
    Calls P f vs.toArray W fun e w' => e = .returned v ∧ RowKit.Below W.heap.size W w' :=
  (h W (old_pre W)).mono fun _ w' ⟨_, _, he, hS⟩ => ⟨he, hS.os, hS.tape, hS.output, hS.size, fun k hk => by
    have ho : (old W).holds w' := hS.all _ (List.mem_singleton.2 rfl)
    exact ho.2 k hk⟩
/-- A whole value is stored, from place o of the block in front on. -/
theorem o_storew {md : Mode} (hme : md.canEff = true) {t b o T : Nat} {cs cs' vs : List Value} {r : TRow} {tab : List TRow} (hT : TabOk P tab) {x y : Operand} (hx : ev l x = some (.pointer (some ⟨b, o, none⟩))) (hy : ev l y = some (.agg vs.toArray)) (ht : nth tab t = some r)
    (hs : vs.length = r.size) (hone : vs.all (·.oneCell') = true) (hfit : o + vs.length ≤ cs.length) (hset : cs.take o ++ vs ++ cs.drop (o + vs.length) = cs') (k : Z P ops md n l B (cells b T cs' :: hp) rest) :
    Z P ops md n l B (cells b T cs :: hp) (⟨none, .store t x y, ty, pos, aft, none⟩ :: rest) :=
  z_eff hme (v := undef) (n' := .skip) (Mode.fits_of rfl) (.inr ⟨rfl, rfl⟩) (fun _ h => by cases h) (fun a w hA hS => by
    have hc : w.heap[b]? = some (.cells cs.toArray T (0, 0)) := hS.at_ 0 rfl
    have hst := run_storeCells_at P b o T vs 0 cs.toArray w hc (by simpa using hfit) (by simpa using hone)
    simp only [Nat.add_zero, hset] at hst
    refine ⟨w.setRow b cs'.toArray, ?_, hS.write (w' := w.setRow b cs'.toArray) (d := cells b T cs') rfl rfl rfl (setRow_size _ _ _) (fun k hk => setRow_other w b k _ hk) (setRow_heap w b cs.toArray cs'.toArray T (0, 0) hc) (fun k hk => hk)⟩
    simp only [execOp, hA.eval hx, hA.eval hy, Instr.storeAt, Instr.sureAddr, storeVar, Value.cells, x_sizeOf hT ht, ← hs, Sem.run_bind, Result.andThen, Sem.run_pure, List.size_toArray, ne_eq, not_true_eq_false, if_false, hst]) k
end
end Go.Proofs.Ytjejnlfbonpfaaa.Eng
