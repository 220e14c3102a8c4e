/-
The engine, sixth part: structs and arrays as values; cuts; conversions; bits.
-/
import Derived.Test.YtnckabgaichkkaaEng5
namespace Go.Proofs.Ytnckabgaichkkaa.Eng
set_option linter.unusedVariables false
set_option linter.unusedSimpArgs false
open Go
section
variable {P : Program} {ops : Array Oper} {md : Mode} {n : Nat} {l : Fr} {B : Base} {hp hq : List Chunk} {rest : List Oper} {o : Oper} {Q : Exit → Act → World → Prop} {F : Act → World → Prop}
variable {d : Nat} {ty : TypeId} {pos : String} {aft : Array Edge}
theorem o_build {t : Nat} {ps : List (Nat × Operand)} {pvs : List (Nat × Value)} {v : Value} (hx : evp l ps = some pvs) (hb : ∀ w, (Instr.build t pvs.toArray).run P w = .ok v w) (hd : d < n) (kk : Z P ops md n ((d, v) :: l) B hp rest) :
    Z P ops md n l B hp (⟨some d, .build t ps.toArray, ty, pos, aft, none⟩ :: rest) :=
  z_valp (Mode.fits_of rfl) rfl rfl hd (fun a w hA => by
    have hev : ps.toArray.map (fun p => (p.1, a.eval p.2)) = pvs.toArray := by rw [List.map_toArray, hA.evalp hx]
    simp only [execOp, hev, Sem.run_bind, hb w, Result.andThen, Sem.run_pure]) kk
theorem o_boxa {md : Mode} (hme : md.canX = true) {e : Nat} {x : Operand} {vs : List Value} (hx : ev l x = some (.agg vs.toArray)) (hd : d < n) (k : ∀ g, Z P ops md n ((d, .pointer (some ⟨g, 0, none⟩)) :: l) B (cells g e vs :: hp) rest) :
    Z P ops md n l B hp (⟨some d, .box e x, ty, pos, aft, none⟩ :: rest) := o_box hme hx hd k
theorem o_alloca {md : Mode} (hme : md.canX = true) {e : Nat} {vs : List Value} (hz : (P.info? e).map (·.zero) = some (some (.agg vs.toArray))) (hd : d < n) (k : ∀ g, Z P ops md n ((d, .pointer (some ⟨g, 0, none⟩)) :: l) B (cells g e vs :: hp) rest) :
    Z P ops md n l B hp (⟨some d, .alloc e, ty, pos, aft, none⟩ :: rest) := o_alloc hme hz hd k
/- cuts -/
def cutA (A : Option Addr) (c lo sz : Nat) : Option Addr := if c = lo then A else A.map (·.add (lo * sz))
theorem x_slice {t e s b c k : Nat} {re : TRow} {tab : List TRow} (hT : TabOk P tab) {A : Option Addr} (ht : nth tab t = some ⟨.slice e, s, b⟩) (hr : nth tab e = some re) {lo hi : Int} {olo ohi : Option Value} {kl kh : IntKind}
    (hlo : olo = some (.int kl lo) ∨ (olo = none ∧ lo = 0)) (hhi : ohi = some (.int kh hi) ∨ (ohi = none ∧ hi = k)) (h0 : 0 ≤ lo) (h1 : lo ≤ hi) (h2 : hi ≤ c) (w : World) :
    (Instr.sliceAt t (.slice A k c) olo ohi none).run P w = .ok (.slice (cutA A c lo.toNat re.size) (hi.toNat - lo.toNat) (c - lo.toNat)) w := by
  obtain ⟨dd, _, hu, hk', -⟩ := hT t _ ht
  cases dd <;> simp [kindOf] at hk'
  subst hk'
  obtain ⟨_, i', _, _, hi', hs, _⟩ := hT _ _ hr
  have e0 : 0 ≤ hi := by omega
  have bd : ∀ (kk : IntKind) (i : Int) (y : Nat) (code : BoundsCode), 0 ≤ i → i ≤ (y : Int) → (Instr.sliceBound (.int kk i) y code).run P w = .ok i.toNat w := fun kk i y code a b => by
    simp [Instr.sliceBound, asIntOf, a, b, Sem.run_bind, Sem.run_pure, Result.andThen]
  have hl : lo ≤ ((hi.toNat : Nat) : Int) := by omega
  have hb : (Instr.sliceBounds true k c olo ohi none).run P w = .ok (lo.toNat, hi.toNat, c) w := by
    rcases hlo with hlo | ⟨hlo, hl0⟩ <;> rcases hhi with hhi | ⟨hhi, hh0⟩
    · rw [hlo, hhi]
      simp [Instr.sliceBounds, bd kh hi c _ e0 h2, bd kl lo hi.toNat _ h0 hl, Sem.run_bind, Sem.run_pure, Result.andThen]
    · have e : hi.toNat = k := by omega
      rw [e] at hl ⊢
      rw [hlo, hhi]
      simp [Instr.sliceBounds, bd kl lo k _ h0 hl, Sem.run_bind, Sem.run_pure, Result.andThen]
    · have e : lo.toNat = 0 := by omega
      rw [e, hlo, hhi]
      simp [Instr.sliceBounds, bd kh hi c _ e0 h2, Sem.run_bind, Sem.run_pure, Result.andThen]
    · have e : lo.toNat = 0 := by omega
      have e' : hi.toNat = k := by omega
      rw [e, e', hlo, hhi]
      simp [Instr.sliceBounds, Sem.run_bind, Sem.run_pure, Result.andThen]
  simp only [Instr.sliceAt, run_underlying hu, Sem.run_bind, Result.andThen, Instr.slice, hb, sizeOf, typeInfo, program, Sem.run, hi', hs, Sem.run_pure, cutA]
theorem o_slice {t e s b c k : Nat} {re : TRow} {tab : List TRow} (hT : TabOk P tab) {A : Option Addr} {x : Operand} {lo hi : Operand} {i j : Int} {kl kh : IntKind} (hx : ev l x = some (.slice A k c)) (hlo : ev l lo = some (.int kl i)) (hhi : ev l hi = some (.int kh j)) (ht : nth tab t = some ⟨.slice e, s, b⟩) (hr : nth tab e = some re)
    (h0 : 0 ≤ i) (h1 : i ≤ j) (h2 : j ≤ c) (hd : d < n) (kk : Z P ops md n ((d, .slice (cutA A c i.toNat re.size) (j.toNat - i.toNat) (c - i.toNat)) :: l) B hp rest) : Z P ops md n l B hp (⟨some d, .slice t x (some lo) (some hi) none, ty, pos, aft, none⟩ :: rest) :=
  z_valp (Mode.fits_of rfl) rfl rfl hd (fun a w hA => by
    simp only [execOp, hA.eval hx, Option.map_some, Option.map_none, hA.eval hlo, hA.eval hhi, Sem.run_bind, x_slice hT ht hr (.inl rfl) (.inl rfl) h0 h1 h2 w, Result.andThen, Sem.run_pure]) kk
theorem o_slicel {t e s b c k : Nat} {re : TRow} {tab : List TRow} (hT : TabOk P tab) {A : Option Addr} {x : Operand} {lo : Operand} {i : Int} {kl : IntKind} (hx : ev l x = some (.slice A k c)) (hlo : ev l lo = some (.int kl i)) (ht : nth tab t = some ⟨.slice e, s, b⟩) (hr : nth tab e = some re)
    (h0 : 0 ≤ i) (h1 : i ≤ k) (h2 : k ≤ c) (hd : d < n) (kk : Z P ops md n ((d, .slice (cutA A c i.toNat re.size) (k - i.toNat) (c - i.toNat)) :: l) B hp rest) : Z P ops md n l B hp (⟨some d, .slice t x (some lo) none none, ty, pos, aft, none⟩ :: rest) :=
  z_valp (Mode.fits_of rfl) rfl rfl hd (fun a w hA => by
    have := x_slice (P := P) hT ht hr (kl := kl) (kh := kl) (A := A) (.inl rfl : some (Value.int kl i) = some (.int kl i) ∨ _) (.inr ⟨rfl, rfl⟩) h0 h1 (by omega : (k : Int) ≤ c) w
    simp only [execOp, hA.eval hx, Option.map_some, Option.map_none, hA.eval hlo, Sem.run_bind, this, Result.andThen, Sem.run_pure, Int.toNat_natCast]) kk
theorem o_sliceh {t e s b c k : Nat} {re : TRow} {tab : List TRow} (hT : TabOk P tab) {A : Option Addr} {x : Operand} {hi : Operand} {j : Int} {kh : IntKind} (hx : ev l x = some (.slice A k c)) (hhi : ev l hi = some (.int kh j)) (ht : nth tab t = some ⟨.slice e, s, b⟩) (hr : nth tab e = some re)
    (h1 : 0 ≤ j) (h2 : j ≤ c) (hd : d < n) (kk : Z P ops md n ((d, .slice A j.toNat c) :: l) B hp rest) : Z P ops md n l B hp (⟨some d, .slice t x none (some hi) none, ty, pos, aft, none⟩ :: rest) :=
  z_valp (Mode.fits_of rfl) rfl rfl hd (fun a w hA => by
    have := x_slice (P := P) hT ht hr (kl := kh) (kh := kh) (k := k) (A := A) (lo := 0) (.inr ⟨rfl, rfl⟩) (.inl rfl : some (Value.int kh j) = some (.int kh j) ∨ _) (by omega) h1 h2 w
    have e : cutA A c (0 : Int).toNat re.size = A := by
      unfold cutA
      split
      · rfl
      · cases A <;> simp [Addr.add]
    rw [e] at this
    simp only [execOp, hA.eval hx, Option.map_some, Option.map_none, hA.eval hhi, Sem.run_bind, this, Result.andThen, Sem.run_pure, Int.toNat_zero, Nat.sub_zero]) kk
theorem Rds.take {hp : List Chunk} {A : Option Addr} {cs : List Value} (h : Rds hp A cs) (m : Nat) : Rds hp A (cs.take m) := fun w hw j u hu => h w hw j u (by
  rw [List.getElem?_take] at hu
  split at hu
  · exact hu
  · cases hu)
theorem Rds.cut {hp : List Chunk} {A : Option Addr} {cs : List Value} (h : Rds hp A cs) (c lo sz : Nat) (hl : cs.length ≤ c * sz) : Rds hp (cutA A c lo sz) (cs.drop (lo * sz)) := fun w hw j u hu => by
  rw [List.getElem?_drop] at hu
  obtain ⟨p, hp, hc⟩ := h w hw _ u hu
  have hlt := (List.getElem?_eq_some_iff.1 hu).1
  have hne : c ≠ lo := fun e => by subst e; omega
  refine ⟨p.add (lo * sz), by unfold cutA; rw [if_neg hne, hp]; rfl, by rw [add_add]; exact hc⟩
/-- A list of structs, field by field. -/
theorem flat_get {α : Type} (f : α → List Value) (m : Nat) (hf : ∀ d, (f d).length = m) (D : List α) : ∀ (k j : Nat) (x : α), D[k]? = some x → j < m → (D.flatMap f)[k * m + j]? = (f x)[j]? := by
  induction D with
  | nil => intro k j x h; simp at h
  | cons y r ih =>
    intro k j x hx hj
    rw [List.flatMap_cons]
    cases k with
    | zero =>
      simp at hx
      subst hx
      rw [Nat.zero_mul, Nat.zero_add, List.getElem?_append_left (by rw [hf]; exact hj)]
    | succ k =>
      have e : (k + 1) * m + j = m + (k * m + j) := by rw [Nat.succ_mul]; omega
      rw [e, List.getElem?_append_right (by rw [hf]; omega), hf, show m + (k * m + j) - m = k * m + j by omega]
      exact ih k j x (by simpa using hx) hj
theorem flat_len {α : Type} (f : α → List Value) (m : Nat) (hf : ∀ d, (f d).length = m) (D : List α) : (D.flatMap f).length = D.length * m := by
  induction D with
  | nil => simp
  | cons y r ih => rw [List.flatMap_cons, List.length_append, hf, ih, List.length_cons, Nat.succ_mul, Nat.add_comm]
/- bits, conversions -/
def bitv (op : BinOp) (k : IntKind) (i j : Int) : Int := match op with
  | .and => k.wrap (BitVec.ofInt k.bits i &&& BitVec.ofInt k.bits j).toNat
  | .or => k.wrap (BitVec.ofInt k.bits i ||| BitVec.ofInt k.bits j).toNat
  | .xor => k.wrap (BitVec.ofInt k.bits i ^^^ BitVec.ofInt k.bits j).toNat
  | _ => k.wrap (BitVec.ofInt k.bits i &&& ~~~(BitVec.ofInt k.bits j)).toNat
theorem o_and {t t' : Nat} {x y : Operand} {k : IntKind} {i j : Int} (hx : ev l x = some (.int k i)) (hy : ev l y = some (.int k j)) (hd : d < n) (kk : Z P ops md n ((d, .int k (bitv .and k i j)) :: l) B hp rest) :
    Z P ops md n l B hp (⟨some d, .binOp .and t x y t', ty, pos, aft, none⟩ :: rest) := o_bin hx hy hd (fun w => by simp [binOp, Op.intBits, Sem.run_pure, bitv]) kk
theorem o_or {t t' : Nat} {x y : Operand} {k : IntKind} {i j : Int} (hx : ev l x = some (.int k i)) (hy : ev l y = some (.int k j)) (hd : d < n) (kk : Z P ops md n ((d, .int k (bitv .or k i j)) :: l) B hp rest) :
    Z P ops md n l B hp (⟨some d, .binOp .or t x y t', ty, pos, aft, none⟩ :: rest) := o_bin hx hy hd (fun w => by simp [binOp, Op.intBits, Sem.run_pure, bitv]) kk
theorem o_andNot {t t' : Nat} {x y : Operand} {k : IntKind} {i j : Int} (hx : ev l x = some (.int k i)) (hy : ev l y = some (.int k j)) (hd : d < n) (kk : Z P ops md n ((d, .int k (bitv .andNot k i j)) :: l) B hp rest) :
    Z P ops md n l B hp (⟨some d, .binOp .andNot t x y t', ty, pos, aft, none⟩ :: rest) := o_bin hx hy hd (fun w => by simp [binOp, Op.intBits, Sem.run_pure, bitv]) kk
def shlv (k : IntKind) (i j : Int) : Int := k.wrap (i * 2 ^ (min j.toNat k.bits))
def shrv (k : IntKind) (i j : Int) : Int := i.fdiv (2 ^ (min j.toNat k.bits))
theorem o_shift {op : BinOp} {t t' : Nat} {x y : Operand} {k k' : IntKind} {i j : Int} {v : Value} (hx : ev l x = some (.int k i)) (hy : ev l y = some (.int k' j)) (hd : d < n) (hv : ∀ w, (binOp op t (.int k i) (.int k' j)).run P w = .ok v w) (kk : Z P ops md n ((d, v) :: l) B hp rest) :
    Z P ops md n l B hp (⟨some d, .binOp op t x y t', ty, pos, aft, none⟩ :: rest) :=
  z_valp (Mode.fits_of rfl) rfl rfl hd (fun a w hA => by simp [execOp, hA.eval hx, hA.eval hy, eqGuard_int, hv, Sem.run_bind, Sem.run_pure, Result.andThen]) kk
theorem o_shl {t t' : Nat} {x y : Operand} {k k' : IntKind} {i j : Int} (hx : ev l x = some (.int k i)) (hy : ev l y = some (.int k' j)) (h0 : 0 ≤ j) (hd : d < n) (kk : Z P ops md n ((d, .int k (shlv k i j)) :: l) B hp rest) :
    Z P ops md n l B hp (⟨some d, .binOp .shl t x y t', ty, pos, aft, none⟩ :: rest) := o_shift hx hy hd (fun w => by simp [binOp, Op.shift, Sem.run_pure, shlv, show ¬ j < 0 by omega]) kk
theorem o_shr {t t' : Nat} {x y : Operand} {k k' : IntKind} {i j : Int} (hx : ev l x = some (.int k i)) (hy : ev l y = some (.int k' j)) (h0 : 0 ≤ j) (hd : d < n) (kk : Z P ops md n ((d, .int k (shrv k i j)) :: l) B hp rest) :
    Z P ops md n l B hp (⟨some d, .binOp .shr t x y t', ty, pos, aft, none⟩ :: rest) := o_shift hx hy hd (fun w => by simp [binOp, Op.shift, Sem.run_pure, shrv, show ¬ j < 0 by omega]) kk
theorem o_conv {s t : Nat} {x : Operand} {k k' : IntKind} {i : Int} {a1 b1 a2 b2 : Nat} {ks : IntKind} {tab : List TRow} (hT : TabOk P tab) (hx : ev l x = some (.int k i)) (hs : nth tab s = some ⟨.int ks, a1, b1⟩) (ht : nth tab t = some ⟨.int k', a2, b2⟩) (hd : d < n)
    (kk : Z P ops md n ((d, .int k' (k'.wrap i)) :: l) B hp rest) : Z P ops md n l B hp (⟨some d, .convert s t x, ty, pos, aft, none⟩ :: rest) :=
  z_valp (Mode.fits_of rfl) rfl rfl hd (fun a w hA => by
    obtain ⟨d1, _, hu1, hk1, -⟩ := hT s _ hs
    obtain ⟨d2, _, hu2, hk2, -⟩ := hT t _ ht
    cases d1 <;> simp [kindOf] at hk1
    cases d2 <;> simp [kindOf] at hk2
    subst hk1 hk2
    simp [execOp, hA.eval hx, convert, run_underlying hu1, run_underlying hu2, Conv.intToInt, Sem.run_bind, Sem.run_pure, Result.andThen]) kk
theorem and63 (i : Int) : 0 ≤ bitv .and .i64 i 63 ∧ bitv .and .i64 i 63 ≤ 63 := by
  have h : (BitVec.ofInt 64 i &&& BitVec.ofInt 64 63).toNat ≤ 63 := by
    rw [BitVec.toNat_and]
    exact Nat.le_trans Nat.and_le_right (by decide)
  have e : bitv .and .i64 i 63 = ((BitVec.ofInt 64 i &&& BitVec.ofInt 64 63).toNat : Int) := by
    show IntKind.i64.wrap _ = _
    exact wrap64_id (by omega) (by
      have : ((BitVec.ofInt IntKind.i64.bits i &&& BitVec.ofInt IntKind.i64.bits 63).toNat : Int) ≤ 63 := by exact_mod_cast h
      omega)
  rw [e]
  omega
theorem o_min {x y : Operand} {k : IntKind} {i j : Int} {ats : Array TypeId} (hx : ev l x = some (.int k i)) (hy : ev l y = some (.int k j)) (hd : d < n) (kk : Z P ops md n ((d, .int k (min i j)) :: l) B hp rest) :
    Z P ops md n l B hp (⟨some d, .call ⟨.builtin .min, #[x, y], ats⟩, ty, pos, aft, none⟩ :: rest) :=
  z_valp (Mode.fits_of rfl) rfl rfl hd (fun a w hA => by
    have e : (if j < i then j else i) = min i j := by split <;> omega
    simp [execOp, resolve, hA.eval hx, hA.eval hy, invoke, builtin, run_min_int2, e, Sem.run_bind, Sem.run_pure, Result.andThen]) kk
theorem o_max {x y : Operand} {k : IntKind} {i j : Int} {ats : Array TypeId} (hx : ev l x = some (.int k i)) (hy : ev l y = some (.int k j)) (hd : d < n) (kk : Z P ops md n ((d, .int k (max i j)) :: l) B hp rest) :
    Z P ops md n l B hp (⟨some d, .call ⟨.builtin .max, #[x, y], ats⟩, ty, pos, aft, none⟩ :: rest) :=
  z_valp (Mode.fits_of rfl) rfl rfl hd (fun a w hA => by
    have e : (if j > i then j else i) = max i j := by split <;> omega
    simp [execOp, resolve, hA.eval hx, hA.eval hy, invoke, builtin, run_max_int2, e, Sem.run_bind, Sem.run_pure, Result.andThen]) kk
/-- A law's call: it returns true, and all that was in memory is as it was. -/
theorem Does.law {f : FuncId} {vs : List Value} {W : World} {v : Value} (h : Does P f vs [old W] (fun _ : Unit => True) (fun _ => v) (fun _ => [old W])) :
    Calls P f vs.toArray W fun e w' => e = .returned v ∧ RowKit.Below W.heap.size W w' :=
  (h W (old_pre W)).mono fun _ w' ⟨_, _, he, hS⟩ => ⟨he, hS.os, hS.tape, hS.output, hS.size, fun k hk => by
    have ho : (old W).holds w' := hS.all _ (List.mem_singleton.2 rfl)
    exact ho.2 k hk⟩
/-- A whole value is stored, from place o of the block in front on. -/
theorem o_storew {md : Mode} (hme : md.canEff = true) {t b o T : Nat} {cs cs' vs : List Value} {r : TRow} {tab : List TRow} (hT : TabOk P tab) {x y : Operand} (hx : ev l x = some (.pointer (some ⟨b, o, none⟩))) (hy : ev l y = some (.agg vs.toArray)) (ht : nth tab t = some r)
    (hs : vs.length = r.size) (hone : vs.all (·.oneCell') = true) (hfit : o + vs.length ≤ cs.length) (hset : cs.take o ++ vs ++ cs.drop (o + vs.length) = cs') (k : Z P ops md n l B (cells b T cs' :: hp) rest) :
    Z P ops md n l B (cells b T cs :: hp) (⟨none, .store t x y, ty, pos, aft, none⟩ :: rest) :=
  z_eff hme (v := undef) (n' := .skip) (Mode.fits_of rfl) (.inr ⟨rfl, rfl⟩) (fun _ h => by cases h) (fun a w hA hS => by
    have hc : w.heap[b]? = some (.cells cs.toArray T (0, 0)) := hS.at_ 0 rfl
    have hst := run_storeCells_at P b o T vs 0 cs.toArray w hc (by simpa using hfit) (by simpa using hone)
    simp only [Nat.add_zero, hset] at hst
    refine ⟨w.setRow b cs'.toArray, ?_, hS.write (w' := w.setRow b cs'.toArray) (d := cells b T cs') rfl rfl rfl (setRow_size _ _ _) (fun k hk => setRow_other w b k _ hk) (setRow_heap w b cs.toArray cs'.toArray T (0, 0) hc) (fun k hk => hk)⟩
    simp only [execOp, hA.eval hx, hA.eval hy, Instr.storeAt, Instr.sureAddr, storeVar, Value.cells, x_sizeOf hT ht, ← hs, Sem.run_bind, Result.andThen, Sem.run_pure, List.size_toArray, ne_eq, not_true_eq_false, if_false, hst]) k
end
end Go.Proofs.Ytnckabgaichkkaa.Eng
