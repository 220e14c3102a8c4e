/-
The engine, second part: one rule for each kind of operation.
-/
import Derived.Test.YtnckabgaichkkaaEngU
import Derived.Test.YtnckabgaichkkaaEngK
namespace Go.Proofs.Ytnckabgaichkkaa.Eng
set_option linter.unusedVariables false
set_option linter.unusedSimpArgs false
open Go

/-! ### Types -/
inductive TKind where
  | bool | int (k : IntKind) | ptr (e : Nat) | slice (e : Nat) | arr (len e : Nat) | str (fields : List (Nat × Nat)) | other
structure TRow where
  kind : TKind
  size : Nat
  bytes : Nat
def kindOf : TypeDesc → TKind
  | .bool => .bool
  | .int k => .int k
  | .pointer e => .ptr e
  | .slice e => .slice e
  | .array n e => .arr n e
  | .struct fs => .str (fs.toList.map fun f => (f.offset, f.type))
  | _ => .other
def nth {α : Type} : List α → Nat → Option α
  | [], _ => none
  | x :: _, 0 => some x
  | _ :: r, i + 1 => nth r i
theorem nth_eq {α : Type} (l : List α) (i : Nat) : nth l i = l[i]? := by
  induction l generalizing i with
  | nil => simp [nth]
  | cons x r ih => cases i <;> simp [nth, ih]
def TRow.of (P : Program) (t : Nat) (r : TRow) : Prop := ∃ d i, P.underlying t = some d ∧ kindOf d = r.kind ∧ P.info? t = some i ∧ i.size = r.size ∧ i.bytes = r.bytes
def TabOk (P : Program) (tab : List TRow) : Prop := ∀ t r, nth tab t = some r → r.of P t
def TabGo (P : Program) : Nat → List TRow → Prop
  | _, [] => True
  | t, r :: rest => r.of P t ∧ TabGo P (t + 1) rest
theorem TabGo.ok {P : Program} {tab : List TRow} (h : TabGo P 0 tab) : TabOk P tab := by
  have key : ∀ (l : List TRow) k, TabGo P k l → ∀ t r, nth l t = some r → r.of P (k + t) := by
    intro l
    induction l with
    | nil => intro k _ t r h; simp [nth] at h
    | cons x l ih =>
      intro k hk t r hr
      cases t with
      | zero => simp [nth] at hr; subst hr; exact hk.1
      | succ t =>
        have := ih (k + 1) hk.2 t r hr
        rwa [show k + 1 + t = k + (t + 1) by omega] at this
  intro t r hr
  have := key tab 0 h t r hr
  rwa [Nat.zero_add] at this
theorem TRow.mk_of {P : Program} {t : Nat} {r : TRow} (d : TypeDesc) (hd : P.underlying t = some d) (hk : kindOf d = r.kind) (hi : (P.info? t).map (fun i => (i.size, i.bytes)) = some (r.size, r.bytes)) : r.of P t := by
  cases hq : P.info? t with
  | none => simp [hq] at hi
  | some i => simp [hq] at hi; exact ⟨d, i, hd, hk, hq, hi.1, hi.2⟩

/-! ### Regions: three kinds of walks through a list of operations -/
inductive Mode where
  | list (Q : Exit → Act → World → Prop)
  | still (F : Act → World → Prop)
  | quiet (F : Act → World → Prop)
  | mixed (F : Act → World → Prop)
  | mixedx (F : Act → World → Prop)
  | mono (el : Ord) (wr : List Chunk) (R : Act → World → Prop) (news : News)
  | keep (ol : List Nat) (wr : List Chunk) (F : Act → World → Prop)
def Mode.fits (m : Mode) (o : Op) (c : Cls) : Prop := match m with
  | .mixed _ => cls o = c
  | .mixedx _ => cls o = c
  | .mono _ _ _ _ => cls o = c
  | .keep _ _ _ => cls o = c
  | _ => True
theorem Mode.fits_of {m : Mode} {o : Op} {c : Cls} (h : cls o = c) : m.fits o c := by cases m <;> first | trivial | exact h
def Mode.canEff : Mode → Bool
  | .list _ => true
  | .mixed _ => true
  | .mixedx _ => true
  | _ => false
def Mode.canX : Mode → Bool
  | .list _ => true
  | .mixedx _ => true
  | _ => false
def Z (P : Program) (ops : Array Oper) (m : Mode) (n : Nat) (l : Fr) (B : Base) (hp : List Chunk) (rest : List Oper) : Prop :=
  match m with
  | .list Q => S n l B hp (wpList P ops Q rest)
  | .still F => S n l B hp fun a w => wpStill P ops w (fun a' => F a' w) rest a
  | .quiet F => ∀ a, Has a n l → wpQuiet P ops (fun w => St B w hp) (fun a' => ∀ w, St B w hp → F a' w) rest a
  | .mixed F => ∀ a, Has a n l → MW P ops F rest (fun w => St B w hp) a
  | .mixedx F => S n l B hp fun a w => MW P ops F rest (fun w' => w' = w) a
  | .mono el wr R news => ∀ a, Has a n l → MP P ops el B hp (MEndW B hp R) rest news wr a
  | .keep ol wr F => ∀ a, Has a n l → KW P ops ol (fun w => ∃ X, St B w (X ++ hp)) F rest (fun w => St B w (wr ++ hp)) a

section
variable {P : Program} {ops : Array Oper} {m : Mode} {n : Nat} {l : Fr} {B : Base} {hp : List Chunk} {rest : List Oper} {o : Oper} {Q : Exit → Act → World → Prop} {F : Act → World → Prop}
theorem z_list (h : S n l B hp (Q .normal)) : Z P ops (.list Q) n l B hp [] := h
theorem z_still (h : S n l B hp F) : Z P ops (.still F) n l B hp [] := h
theorem z_quiet (h : S n l B hp F) : Z P ops (.quiet F) n l B hp [] := fun a hA w hS => h a w hA hS
theorem z_mixed (h : S n l B hp F) : Z P ops (.mixed F) n l B hp [] := fun a hA w hS => h a w hA hS
theorem z_mono0 {el : Ord} {R : Act → World → Prop} (h : S n l B hp R) : Z P ops (.mono el [] R []) n l B hp [] := fun a hA => (MEnd.of hA h : MEnd B hp R [] a)
theorem z_mono1 {el : Ord} {R : Act → World → Prop} {d : Nat} {mk : Nat → Chunk} (hd : d < n) (h : ∀ g, S n ((d, .pointer (some ⟨g, 0, none⟩)) :: l) B (mk g :: hp) R) : Z P ops (.mono el [] R [(d, mk)]) n l B hp [] := fun a hA => (MEnd.of hA ⟨hd, h⟩ : MEnd B hp R [(d, mk)] a)
theorem z_mono2 {el : Ord} {R : Act → World → Prop} {d d' : Nat} {mk mk' : Nat → Chunk} (hd : d < n) (hd' : d' < n) (h : ∀ g g', S n ((d', .pointer (some ⟨g', 0, none⟩)) :: (d, .pointer (some ⟨g, 0, none⟩)) :: l) B (mk' g' :: mk g :: hp) R) : Z P ops (.mono el [] R [(d, mk), (d', mk')]) n l B hp [] := fun a hA => (MEnd.of hA ⟨hd, fun g => ⟨hd', fun g' => h g g'⟩⟩ : MEnd B hp R [(d, mk), (d', mk')] a)
theorem z_mono0w {el : Ord} {R : Act → World → Prop} {c : Chunk} (h : S n l B (c :: hp) R) : Z P ops (.mono el [c] R []) n l B hp [] := fun a hA => (MEnd.of hA h : MEnd B (c :: hp) R [] a)
theorem z_mono1w {el : Ord} {R : Act → World → Prop} {c : Chunk} {d : Nat} {mk : Nat → Chunk} (hd : d < n) (h : ∀ g, S n ((d, .pointer (some ⟨g, 0, none⟩)) :: l) B (mk g :: c :: hp) R) : Z P ops (.mono el [c] R [(d, mk)]) n l B hp [] := fun a hA => (MEnd.of hA ⟨hd, h⟩ : MEnd B (c :: hp) R [(d, mk)] a)
theorem z_mono2w {el : Ord} {R : Act → World → Prop} {c : Chunk} {d d' : Nat} {mk mk' : Nat → Chunk} (hd : d < n) (hd' : d' < n) (h : ∀ g g', S n ((d', .pointer (some ⟨g', 0, none⟩)) :: (d, .pointer (some ⟨g, 0, none⟩)) :: l) B (mk' g' :: mk g :: c :: hp) R) : Z P ops (.mono el [c] R [(d, mk), (d', mk')]) n l B hp [] := fun a hA => (MEnd.of hA ⟨hd, fun g => ⟨hd', fun g' => h g g'⟩⟩ : MEnd B (c :: hp) R [(d, mk), (d', mk')] a)
theorem z_mono0ww {el : Ord} {R : Act → World → Prop} {c c' : Chunk} (h : S n l B (c :: c' :: hp) R) : Z P ops (.mono el [c, c'] R []) n l B hp [] := fun a hA => (MEnd.of hA h : MEnd B (c :: c' :: hp) R [] a)
theorem z_mono1ww {el : Ord} {R : Act → World → Prop} {c c' : Chunk} {d : Nat} {mk : Nat → Chunk} (hd : d < n) (h : ∀ g, S n ((d, .pointer (some ⟨g, 0, none⟩)) :: l) B (mk g :: c :: c' :: hp) R) : Z P ops (.mono el [c, c'] R [(d, mk)]) n l B hp [] := fun a hA => (MEnd.of hA ⟨hd, h⟩ : MEnd B (c :: c' :: hp) R [(d, mk)] a)
theorem z_mixedx (h : S n l B hp F) : Z P ops (.mixedx F) n l B hp [] := fun a w hA hS w' hw => by subst hw; exact h a _ hA hS
theorem Z.sub {l' : Fr} (h : Z P ops m n l' B hp rest) (hs : Sub l' l) : Z P ops m n l B hp rest := by
  cases m with
  | list Q => exact S.sub h hs
  | still F => exact S.sub h hs
  | quiet F => exact fun a hA => h a (hA.sub hs)
  | mixed F => exact fun a hA => h a (hA.sub hs)
  | mixedx F => exact S.sub h hs
  | mono el wr R news => exact fun a hA => h a (hA.sub hs)
  | keep ol wr F => exact fun a hA => h a (hA.sub hs)

theorem Z.heap {hp' : List Chunk} (h : Z P ops (.list Q) n l B hp' rest) (hs : ∀ w, St B w hp → St B w hp') : Z P ops (.list Q) n l B hp rest := S.heap (G := wpList P ops Q rest) h hs
theorem Z.heapx {m : Mode} (hm : m.canX = true) {hp' : List Chunk} (h : Z P ops m n l B hp' rest) (hs : ∀ w, St B w hp → St B w hp') : Z P ops m n l B hp rest := by
  cases m with
  | list Q => exact S.heap (G := wpList P ops Q rest) h hs
  | mixedx F => exact fun a w hA hS => h a w hA (hs w hS)
  | mono el wr R news => cases hm
  | keep ol wr F => cases hm
  | still F => cases hm
  | quiet F => cases hm
  | mixed F => cases hm
theorem z_front {m : Mode} (hm : m.canX = true) (i : Nat) {c : Chunk} (hi : nth hp i = some c) (h : Z P ops m n l B (c :: hp.eraseIdx i) rest) : Z P ops m n l B hp rest :=
  h.heapx hm fun _ hS => hS.front i (by rw [← nth_eq]; exact hi)
/-- An operation that yields a value and leaves the world as it is. -/
theorem z_val {d : Nat} {v : Value} (hf : m.fits o.op .quiet) (hg : o.guard = none) (hd : o.dst = some d) (hlt : d < n)
    (hex : ∀ a w, Has a n l → St B w hp → (execOp a.eval o).run P w = .ok (.value v) w) (k : Z P ops m n ((d, v) :: l) B hp rest) : Z P ops m n l B hp (o :: rest) := by
  have hw : ∀ a : Act, Region.wanted o (yielded ops a.tmps) = true := fun a => by simp [Region.wanted, hg]
  cases m with
  | list Q =>
    intro a w hA hS
    unfold wpList
    rw [if_pos (hw a)]
    refine .inl ?_
    unfold Oper.wp
    rw [hex a w hA hS]
    show wpList P ops Q rest (a.put o.dst v) w
    rw [hd]
    exact k _ w (hA.put hlt v) hS
  | still F =>
    intro a w hA hS
    show wpStill P ops w _ (o :: rest) a
    unfold wpStill
    rw [if_pos (hw a)]
    unfold Oper.still
    rw [hex a w hA hS]
    refine ⟨rfl, ?_⟩
    rw [hd]
    exact k _ w (hA.put hlt v) hS
  | quiet F =>
    intro a hA
    show wpQuiet P ops _ _ (o :: rest) a
    unfold wpQuiet
    rw [if_pos (hw a)]
    refine ⟨v, fun w hS => ?_, ?_⟩
    · unfold Oper.quietAt
      rw [hex a w hA hS]
      exact ⟨rfl, rfl⟩
    · rw [hd]
      exact k _ (hA.put hlt v)
  | mixed F =>
    intro a hA
    show MW P ops _ (o :: rest) _ a
    unfold MW
    rw [if_pos (hw a)]
    have hc : cls o.op = .quiet := hf
    simp only [hc]
    refine ⟨v, fun w hS => ?_, ?_⟩
    · unfold Oper.quietAt
      rw [hex a w hA hS]
      exact ⟨rfl, rfl⟩
    · rw [hd]
      exact k _ (hA.put hlt v)
  | mixedx F =>
    intro a w hA hS
    show MW P ops _ (o :: rest) _ a
    unfold MW
    rw [if_pos (hw a)]
    have hc : cls o.op = .quiet := hf
    simp only [hc]
    refine ⟨v, fun w' hw' => ?_, ?_⟩
    · subst hw'
      unfold Oper.quietAt
      rw [hex a _ hA hS]
      exact ⟨rfl, rfl⟩
    · rw [hd]
      exact k _ w (hA.put hlt v) hS
  | mono el wr R news =>
    intro a hA
    show MP P ops el B hp _ (o :: rest) news wr a
    unfold MP
    have hc : cls o.op = .quiet := hf
    rw [if_pos (hw a), if_neg (by rw [hc]; simp)]
    simp only [iniOf_none (el := el) (o := o) (by rw [hc]; simp)]
    by_cases he : isEl el o = true
    · rw [if_pos he]
      refine ⟨Unit, fun _ => True, fun _ => v, fun _ => wr, fun X w hS => ?_, fun _ _ => ?_⟩
      · unfold effOne
        rw [hex a w hA (hS.sub ((List.sublist_append_right _ _).trans (List.sublist_append_right _ _)))]
        exact ⟨(), trivial, rfl, hS⟩
      · rw [hd]
        exact k _ (hA.put hlt v)
    · rw [if_neg he]
      refine ⟨v, fun X w hS => ?_, ?_⟩
      · unfold Oper.quietAt
        rw [hex a w hA (hS.sub (List.sublist_append_right _ _))]
        exact ⟨rfl, rfl⟩
      · rw [hd]
        exact k _ (hA.put hlt v)
  | keep ol wr F =>
    intro a hA
    show KW P ops _ _ _ (o :: rest) _ a
    unfold KW
    have hc : cls o.op = .quiet := hf
    rw [if_pos (hw a), if_pos (by simp [clsEo, clsE, hc])]
    refine ⟨v, fun w => St B w (wr ++ hp), fun w hS => ?_, fun w hS => ⟨wr, hS⟩, ?_⟩
    · unfold effAt
      rw [hex a w hA (hS.sub (List.sublist_append_right _ _))]
      exact ⟨rfl, hS⟩
    · rw [hd]
      exact k _ (hA.put hlt v)

/-- The same of a load: it may stand unordered with new blocks. -/
theorem z_load {d : Nat} {v : Value} (hf : m.fits o.op .load) (hg : o.guard = none) (hd : o.dst = some d) (hlt : d < n)
    (hex : ∀ a w, Has a n l → St B w hp → (execOp a.eval o).run P w = .ok (.value v) w) (k : Z P ops m n ((d, v) :: l) B hp rest) : Z P ops m n l B hp (o :: rest) := by
  have hw : ∀ a : Act, Region.wanted o (yielded ops a.tmps) = true := fun a => by simp [Region.wanted, hg]
  cases m with
  | list Q => exact z_val (m := .list Q) trivial hg hd hlt hex k
  | still F => exact z_val (m := .still F) trivial hg hd hlt hex k
  | quiet F => exact z_val (m := .quiet F) trivial hg hd hlt hex k
  | mixed F =>
    intro a hA
    show MW P ops _ (o :: rest) _ a
    unfold MW
    rw [if_pos (hw a)]
    have hc : cls o.op = .load := hf
    simp only [hc]
    refine ⟨v, fun w0 w hS e => hex a w hA (hS.ext e), ?_⟩
    rw [hd]
    exact k _ (hA.put hlt v)
  | mixedx F =>
    intro a w hA hS
    show MW P ops _ (o :: rest) _ a
    unfold MW
    rw [if_pos (hw a)]
    have hc : cls o.op = .load := hf
    simp only [hc]
    refine ⟨v, fun w0 w' hw' e => ?_, ?_⟩
    · subst hw'
      exact hex a _ hA (hS.ext e)
    · rw [hd]
      exact k _ w (hA.put hlt v) hS
  | mono el wr R news =>
    intro a hA
    show MP P ops el B hp _ (o :: rest) news wr a
    unfold MP
    have hc : cls o.op = .load := hf
    rw [if_pos (hw a), if_neg (by rw [hc]; simp)]
    simp only [iniOf_none (el := el) (o := o) (by rw [hc]; simp)]
    by_cases he : isEl el o = true
    · rw [if_pos he]
      refine ⟨Unit, fun _ => True, fun _ => v, fun _ => wr, fun X w hS => ?_, fun _ _ => ?_⟩
      · unfold effOne
        rw [hex a w hA (hS.sub ((List.sublist_append_right _ _).trans (List.sublist_append_right _ _)))]
        exact ⟨(), trivial, rfl, hS⟩
      · rw [hd]
        exact k _ (hA.put hlt v)
    · rw [if_neg he]
      refine ⟨v, fun X w hS => ?_, ?_⟩
      · unfold Oper.quietAt
        rw [hex a w hA (hS.sub (List.sublist_append_right _ _))]
        exact ⟨rfl, rfl⟩
      · rw [hd]
        exact k _ (hA.put hlt v)
  | keep ol wr F =>
    intro a hA
    show KW P ops _ _ _ (o :: rest) _ a
    unfold KW
    have hc : cls o.op = .load := hf
    rw [if_pos (hw a)]
    by_cases he : clsEo ol o = true
    · rw [if_pos he]
      refine ⟨v, fun w => St B w (wr ++ hp), fun w hS => ?_, fun w hS => ⟨wr, hS⟩, ?_⟩
      · unfold effAt
        rw [hex a w hA (hS.sub (List.sublist_append_right _ _))]
        exact ⟨rfl, hS⟩
      · rw [hd]
        exact k _ (hA.put hlt v)
    · rw [if_neg he]
      refine ⟨v, fun w ⟨X, hS⟩ => hex a w hA (hS.sub (List.sublist_append_right _ _)), ?_⟩
      rw [hd]
      exact k _ (hA.put hlt v)

/-- The same, whatever the world. -/
theorem z_valp {d : Nat} {v : Value} (hf : m.fits o.op .pure) (hg : o.guard = none) (hd : o.dst = some d) (hlt : d < n)
    (hex : ∀ a w, Has a n l → (execOp a.eval o).run P w = .ok (.value v) w) (k : Z P ops m n ((d, v) :: l) B hp rest) : Z P ops m n l B hp (o :: rest) := by
  cases m with
  | list Q => exact z_val (m := .list Q) trivial hg hd hlt (fun a w hA _ => hex a w hA) k
  | still F => exact z_val (m := .still F) trivial hg hd hlt (fun a w hA _ => hex a w hA) k
  | quiet F => exact z_val (m := .quiet F) trivial hg hd hlt (fun a w hA _ => hex a w hA) k
  | mixed F =>
    intro a hA
    show MW P ops _ (o :: rest) _ a
    unfold MW
    rw [if_pos (by simp [Region.wanted, hg])]
    have hc : cls o.op = .pure := hf
    simp only [hc]
    refine ⟨v, fun w => hex a w hA, ?_⟩
    rw [hd]
    exact k _ (hA.put hlt v)
  | mixedx F =>
    intro a w hA hS
    show MW P ops _ (o :: rest) _ a
    unfold MW
    rw [if_pos (by simp [Region.wanted, hg])]
    have hc : cls o.op = .pure := hf
    simp only [hc]
    refine ⟨v, fun w => hex a w hA, ?_⟩
    rw [hd]
    exact k _ w (hA.put hlt v) hS
  | mono el wr R news =>
    intro a hA
    show MP P ops el B hp _ (o :: rest) news wr a
    unfold MP
    have hc : cls o.op = .pure := hf
    rw [if_pos (by simp [Region.wanted, hg]), if_neg (by rw [hc]; simp)]
    simp only [iniOf_none (el := el) (o := o) (by rw [hc]; simp)]
    by_cases he : isEl el o = true
    · rw [if_pos he]
      refine ⟨Unit, fun _ => True, fun _ => v, fun _ => wr, fun X w hS => ?_, fun _ _ => ?_⟩
      · unfold effOne
        rw [hex a w hA]
        exact ⟨(), trivial, rfl, hS⟩
      · rw [hd]
        exact k _ (hA.put hlt v)
    · rw [if_neg he]
      refine ⟨v, fun X w hS => ?_, ?_⟩
      · unfold Oper.quietAt
        rw [hex a w hA]
        exact ⟨rfl, rfl⟩
      · rw [hd]
        exact k _ (hA.put hlt v)
  | keep ol wr F =>
    intro a hA
    show KW P ops _ _ _ (o :: rest) _ a
    unfold KW
    have hc : cls o.op = .pure := hf
    rw [if_pos (by simp [Region.wanted, hg])]
    by_cases he : clsEo ol o = true
    · rw [if_pos he]
      refine ⟨v, fun w => St B w (wr ++ hp), fun w hS => ?_, fun w hS => ⟨wr, hS⟩, ?_⟩
      · unfold effAt
        rw [hex a w hA]
        exact ⟨rfl, hS⟩
      · rw [hd]
        exact k _ (hA.put hlt v)
    · rw [if_neg he]
      refine ⟨v, fun w _ => hex a w hA, ?_⟩
      rw [hd]
      exact k _ (hA.put hlt v)

/-- A guard that says yes: as if there were none. -/
theorem z_want {d : Option Tmp} {op : Op} {ty : TypeId} {pos : String} {aft : Array Edge} {j t : Nat} {want b : Bool} (ht : (ops[j]?).bind (·.dst) = some t) (hb : look l t = some (.bool b)) (hbw : b = want)
    (k : Z P ops m n l B hp (⟨d, op, ty, pos, aft, none⟩ :: rest)) : Z P ops m n l B hp (⟨d, op, ty, pos, aft, some (j, want)⟩ :: rest) := by
  have hw : ∀ a : Act, Has a n l → Region.wanted ⟨d, op, ty, pos, aft, some (j, want)⟩ (yielded ops a.tmps) = true := fun a hA => by
    have := hA.slot t _ hb
    simp [Region.wanted, yielded, ht, this, hbw]
  have hn : ∀ a : Act, Region.wanted ⟨d, op, ty, pos, aft, none⟩ (yielded ops a.tmps) = true := fun a => by simp [Region.wanted]
  cases m with
  | list Q =>
    intro a w hA hS
    have := k a w hA hS
    unfold wpList at this ⊢
    rw [if_pos (hw a hA)]
    rw [if_pos (hn a)] at this
    exact this
  | still F =>
    intro a w hA hS
    have : wpStill P ops w _ (_ :: rest) a := k a w hA hS
    show wpStill P ops w _ (_ :: rest) a
    unfold wpStill at this ⊢
    rw [if_pos (hw a hA)]
    rw [if_pos (hn a)] at this
    exact this
  | quiet F =>
    intro a hA
    have : wpQuiet P ops _ _ (_ :: rest) a := k a hA
    show wpQuiet P ops _ _ (_ :: rest) a
    unfold wpQuiet at this ⊢
    rw [if_pos (hw a hA)]
    rw [if_pos (hn a)] at this
    exact this
  | mixed F =>
    intro a hA
    have : MW P ops _ (_ :: rest) _ a := k a hA
    show MW P ops _ (_ :: rest) _ a
    unfold MW at this ⊢
    rw [if_pos (hw a hA)]
    rw [if_pos (hn a)] at this
    exact this
  | mixedx F =>
    intro a w hA hS
    have : MW P ops _ (_ :: rest) _ a := k a w hA hS
    show MW P ops _ (_ :: rest) _ a
    unfold MW at this ⊢
    rw [if_pos (hw a hA)]
    rw [if_pos (hn a)] at this
    exact this
  | mono el wr R news =>
    intro a hA
    have : MP P ops el B hp _ (_ :: rest) news wr a := k a hA
    show MP P ops el B hp _ (_ :: rest) news wr a
    unfold MP at this ⊢
    rw [if_pos (hw a hA)]
    rw [if_pos (hn a)] at this
    exact this
  | keep ol wr F =>
    intro a hA
    have : KW P ops _ _ _ (_ :: rest) _ a := k a hA
    show KW P ops _ _ _ (_ :: rest) _ a
    unfold KW at this ⊢
    rw [if_pos (hw a hA)]
    rw [if_pos (hn a)] at this
    exact this
/-- A guard that says no: the operation is left out. -/
theorem z_skip {d : Nat} {op : Op} {ty : TypeId} {pos : String} {aft : Array Edge} {j t : Nat} {want b : Bool} (hlt : d < n) (ht : (ops[j]?).bind (·.dst) = some t) (hb : look l t = some (.bool b)) (hbw : b = !want)
    (k : Z P ops m n ((d, undef) :: l) B hp rest) : Z P ops m n l B hp (⟨some d, op, ty, pos, aft, some (j, want)⟩ :: rest) := by
  have hw : ∀ a : Act, Has a n l → Region.wanted ⟨some d, op, ty, pos, aft, some (j, want)⟩ (yielded ops a.tmps) = false := fun a hA => by
    have := hA.slot t _ hb
    simp only [Region.wanted, yielded, ht, Option.bind_some, this, hbw]
    cases want <;> rfl
  cases m with
  | list Q =>
    intro a w hA hS
    unfold wpList
    rw [if_neg (by rw [hw a hA]; simp)]
    exact k _ w (hA.put hlt undef) hS
  | still F =>
    intro a w hA hS
    show wpStill P ops w _ (_ :: rest) a
    unfold wpStill
    rw [if_neg (by rw [hw a hA]; simp)]
    exact k _ w (hA.put hlt undef) hS
  | quiet F =>
    intro a hA
    show wpQuiet P ops _ _ (_ :: rest) a
    unfold wpQuiet
    rw [if_neg (by rw [hw a hA]; simp)]
    exact k _ (hA.put hlt undef)
  | mixed F =>
    intro a hA
    show MW P ops _ (_ :: rest) _ a
    unfold MW
    rw [if_neg (by rw [hw a hA]; simp)]
    exact k _ (hA.put hlt undef)
  | mixedx F =>
    intro a w hA hS
    show MW P ops _ (_ :: rest) _ a
    unfold MW
    rw [if_neg (by rw [hw a hA]; simp)]
    exact k _ w (hA.put hlt undef) hS
  | mono el wr R news =>
    intro a hA
    show MP P ops el B hp _ (_ :: rest) news wr a
    unfold MP
    rw [if_neg (by rw [hw a hA]; simp)]
    exact k _ (hA.put hlt undef)
  | keep ol wr F =>
    intro a hA
    show KW P ops _ _ _ (_ :: rest) _ a
    unfold KW
    rw [if_neg (by rw [hw a hA]; simp)]
    exact k _ (hA.put hlt undef)
/-- The same where what guards was itself left out. -/
theorem z_skipu {d : Nat} {op : Op} {ty : TypeId} {pos : String} {aft : Array Edge} {j t : Nat} {want : Bool} (hlt : d < n) (ht : (ops[j]?).bind (·.dst) = some t) (hb : look l t = some undef)
    (k : Z P ops m n ((d, undef) :: l) B hp rest) : Z P ops m n l B hp (⟨some d, op, ty, pos, aft, some (j, want)⟩ :: rest) := by
  have hw : ∀ a : Act, Has a n l → Region.wanted ⟨some d, op, ty, pos, aft, some (j, want)⟩ (yielded ops a.tmps) = false := fun a hA => by
    have := hA.slot t _ hb
    simp only [Region.wanted, yielded, ht, Option.bind_some, this]
    rfl
  cases m with
  | list Q =>
    intro a w hA hS
    unfold wpList
    rw [if_neg (by rw [hw a hA]; simp)]
    exact k _ w (hA.put hlt undef) hS
  | still F =>
    intro a w hA hS
    show wpStill P ops w _ (_ :: rest) a
    unfold wpStill
    rw [if_neg (by rw [hw a hA]; simp)]
    exact k _ w (hA.put hlt undef) hS
  | quiet F =>
    intro a hA
    show wpQuiet P ops _ _ (_ :: rest) a
    unfold wpQuiet
    rw [if_neg (by rw [hw a hA]; simp)]
    exact k _ (hA.put hlt undef)
  | mixed F =>
    intro a hA
    show MW P ops _ (_ :: rest) _ a
    unfold MW
    rw [if_neg (by rw [hw a hA]; simp)]
    exact k _ (hA.put hlt undef)
  | mixedx F =>
    intro a w hA hS
    show MW P ops _ (_ :: rest) _ a
    unfold MW
    rw [if_neg (by rw [hw a hA]; simp)]
    exact k _ w (hA.put hlt undef) hS
  | mono el wr R news =>
    intro a hA
    show MP P ops el B hp _ (_ :: rest) news wr a
    unfold MP
    rw [if_neg (by rw [hw a hA]; simp)]
    exact k _ (hA.put hlt undef)
  | keep ol wr F =>
    intro a hA
    show KW P ops _ _ _ (_ :: rest) _ a
    unfold KW
    rw [if_neg (by rw [hw a hA]; simp)]
    exact k _ (hA.put hlt undef)
/-- A guard that is not decided: both ways. -/
theorem z_guard1 {d : Nat} {op : Op} {ty : TypeId} {pos : String} {aft : Array Edge} {j t : Nat} {p : Prop} [Decidable p] (hlt : d < n) (ht : (ops[j]?).bind (·.dst) = some t) (hb : look l t = some (.bool (decide p)))
    (hy : p → Z P ops m n l B hp (⟨some d, op, ty, pos, aft, none⟩ :: rest)) (hn : ¬ p → Z P ops m n ((d, undef) :: l) B hp rest) : Z P ops m n l B hp (⟨some d, op, ty, pos, aft, some (j, true)⟩ :: rest) := by
  by_cases h : p
  · exact z_want ht hb (decide_eq_true h) (hy h)
  · exact z_skip hlt ht hb (decide_eq_false h) (hn h)
theorem z_guard0 {d : Nat} {op : Op} {ty : TypeId} {pos : String} {aft : Array Edge} {j t : Nat} {p : Prop} [Decidable p] (hlt : d < n) (ht : (ops[j]?).bind (·.dst) = some t) (hb : look l t = some (.bool (decide p)))
    (hy : ¬ p → Z P ops m n l B hp (⟨some d, op, ty, pos, aft, none⟩ :: rest)) (hn : p → Z P ops m n ((d, undef) :: l) B hp rest) : Z P ops m n l B hp (⟨some d, op, ty, pos, aft, some (j, false)⟩ :: rest) := by
  by_cases h : p
  · exact z_skip hlt ht hb (decide_eq_true h) (hn h)
  · exact z_want ht hb (decide_eq_false h) (hy h)
theorem z_guardb {d : Nat} {op : Op} {ty : TypeId} {pos : String} {aft : Array Edge} {j t : Nat} {b want : Bool} (hlt : d < n) (ht : (ops[j]?).bind (·.dst) = some t) (hb : look l t = some (.bool b))
    (hy : b = want → Z P ops m n l B hp (⟨some d, op, ty, pos, aft, none⟩ :: rest)) (hn : b = !want → Z P ops m n ((d, undef) :: l) B hp rest) : Z P ops m n l B hp (⟨some d, op, ty, pos, aft, some (j, want)⟩ :: rest) := by
  by_cases h : b = want
  · exact z_want ht hb h (hy h)
  · have h' : b = !want := by cases b <;> cases want <;> simp_all
    exact z_skip hlt ht hb h' (hn h')
/-- Two ways, by a test. -/
theorem z_split {t : Nat} {p : Prop} [Decidable p] (_hb : look l t = some (.bool (decide p))) (ht : p → Z P ops m n l B hp rest) (hf : ¬ p → Z P ops m n l B hp rest) : Z P ops m n l B hp rest := by
  by_cases h : p
  · exact ht h
  · exact hf h
theorem z_splitb {t : Nat} {b : Bool} (_hb : look l t = some (.bool b)) (ht : b = true → Z P ops m n l B hp rest) (hf : b = false → Z P ops m n l B hp rest) : Z P ops m n l B hp rest := by
  cases h : b
  · exact hf h
  · exact ht h

section
variable {d : Nat} {ty : TypeId} {pos : String} {aft : Array Edge}
theorem o_move {x : Operand} {v : Value} (hx : ev l x = some v) (hd : d < n) (k : Z P ops m n ((d, v) :: l) B hp rest) : Z P ops m n l B hp (⟨some d, .move x, ty, pos, aft, none⟩ :: rest) :=
  z_valp (Mode.fits_of rfl) rfl rfl hd (fun a w hA => by simp [execOp, hA.eval hx, Sem.run_pure]) k
theorem o_assign {x : Operand} {v : Value} (hx : ev l x = some v) (hd : d < n) (k : Z P ops m n ((d, v) :: l) B hp rest) : Z P ops m n l B hp (⟨some d, .assign x, ty, pos, aft, none⟩ :: rest) :=
  z_valp (Mode.fits_of rfl) rfl rfl hd (fun a w hA => by simp [execOp, hA.eval hx, Sem.run_pure]) k
theorem o_pick1 {c x y : Operand} {b : Bool} {v : Value} (hc : ev l c = some (.bool b)) (hb : b = true) (hx : ev l x = some v) (hd : d < n) (k : Z P ops m n ((d, v) :: l) B hp rest) :
    Z P ops m n l B hp (⟨some d, .pick c x y, ty, pos, aft, none⟩ :: rest) :=
  z_valp (Mode.fits_of rfl) rfl rfl hd (fun a w hA => by simp [execOp, hA.eval hc, hA.eval hx, hb, asBool, Sem.run_bind, Sem.run_pure, Result.andThen]) k
theorem o_pick0 {c x y : Operand} {b : Bool} {v : Value} (hc : ev l c = some (.bool b)) (hb : b = false) (hx : ev l y = some v) (hd : d < n) (k : Z P ops m n ((d, v) :: l) B hp rest) :
    Z P ops m n l B hp (⟨some d, .pick c x y, ty, pos, aft, none⟩ :: rest) :=
  z_valp (Mode.fits_of rfl) rfl rfl hd (fun a w hA => by simp [execOp, hA.eval hc, hA.eval hx, hb, asBool, Sem.run_bind, Sem.run_pure, Result.andThen]) k
theorem o_nil {x : Operand} {p : Addr} (hx : ev l x = some (.pointer (some p))) (hd : d < n) (k : Z P ops m n ((d, .pointer (some p)) :: l) B hp rest) :
    Z P ops m n l B hp (⟨some d, .nilCheck x, ty, pos, aft, none⟩ :: rest) :=
  z_valp (Mode.fits_of rfl) rfl rfl hd (fun a w hA => by simp [execOp, hA.eval hx, Sem.run_pure]) k
theorem o_extract {x : Operand} {vs : List Value} {i : Nat} {v : Value} (hx : ev l x = some (.tuple vs.toArray)) (hi : nth vs i = some v) (hd : d < n) (k : Z P ops m n ((d, v) :: l) B hp rest) :
    Z P ops m n l B hp (⟨some d, .extract x i, ty, pos, aft, none⟩ :: rest) :=
  z_valp (Mode.fits_of rfl) rfl rfl hd (fun a w hA => by rw [nth_eq] at hi; simp [execOp, hA.eval hx, Instr.extract, hi, Sem.run_bind, Sem.run_pure, Result.andThen]) k
theorem o_not {t : Nat} {x : Operand} {b : Bool} (hx : ev l x = some (.bool b)) (hd : d < n) (k : Z P ops m n ((d, .bool (!b)) :: l) B hp rest) :
    Z P ops m n l B hp (⟨some d, .unOp .not t x, ty, pos, aft, none⟩ :: rest) :=
  z_valp (Mode.fits_of rfl) rfl rfl hd (fun a w hA => by simp [execOp, hA.eval hx, Op.unary, Sem.run_bind, Sem.run_pure, Result.andThen]) k

/- integers -/
theorem eqGuard_int (P : Program) (op : BinOp) (t : TypeId) (x y : Operand) (k k' : IntKind) (i j : Int) (w : World) : (eqGuard op t x y (.int k i) (.int k' j)).run P w = .ok () w := by
  unfold eqGuard
  cases op <;> simp [Sem.run_bind, Sem.run_pure, Result.andThen]
theorem o_bin {op : BinOp} {t t' : Nat} {x y : Operand} {k : IntKind} {i j : Int} {v : Value} (hx : ev l x = some (.int k i)) (hy : ev l y = some (.int k j)) (hd : d < n)
    (hv : ∀ w, (binOp op t (.int k i) (.int k j)).run P w = .ok v w) (kk : Z P ops m n ((d, v) :: l) B hp rest) :
    Z P ops m n l B hp (⟨some d, .binOp op t x y t', ty, pos, aft, none⟩ :: rest) :=
  z_valp (Mode.fits_of rfl) rfl rfl hd (fun a w hA => by simp [execOp, hA.eval hx, hA.eval hy, eqGuard_int, hv, Sem.run_bind, Sem.run_pure, Result.andThen]) kk
section
variable {t t' : Nat} {x y : Operand} {k : IntKind} {i j : Int}
theorem o_addw (hx : ev l x = some (.int k i)) (hy : ev l y = some (.int k j)) (hd : d < n) (kk : Z P ops m n ((d, .int k (k.wrap (i + j))) :: l) B hp rest) :
    Z P ops m n l B hp (⟨some d, .binOp .add t x y t', ty, pos, aft, none⟩ :: rest) := o_bin hx hy hd (fun w => by simp [binOp, Op.intArith, Sem.run_pure]) kk
theorem o_subw (hx : ev l x = some (.int k i)) (hy : ev l y = some (.int k j)) (hd : d < n) (kk : Z P ops m n ((d, .int k (k.wrap (i - j))) :: l) B hp rest) :
    Z P ops m n l B hp (⟨some d, .binOp .sub t x y t', ty, pos, aft, none⟩ :: rest) := o_bin hx hy hd (fun w => by simp [binOp, Op.intArith, Sem.run_pure]) kk
theorem o_mulw (hx : ev l x = some (.int k i)) (hy : ev l y = some (.int k j)) (hd : d < n) (kk : Z P ops m n ((d, .int k (k.wrap (i * j))) :: l) B hp rest) :
    Z P ops m n l B hp (⟨some d, .binOp .mul t x y t', ty, pos, aft, none⟩ :: rest) := o_bin hx hy hd (fun w => by simp [binOp, Op.intArith, Sem.run_pure]) kk
theorem wrap64_id {i : Int} (h0 : -9223372036854775808 ≤ i) (h1 : i ≤ 9223372036854775807) : IntKind.i64.wrap i = i := IntWalk.i64_in i ⟨h0, h1⟩
theorem o_add (hx : ev l x = some (.int .i64 i)) (hy : ev l y = some (.int .i64 j)) (h0 : -9223372036854775808 ≤ i + j) (h1 : i + j ≤ 9223372036854775807) (hd : d < n) (kk : Z P ops m n ((d, .int .i64 (i + j)) :: l) B hp rest) :
    Z P ops m n l B hp (⟨some d, .binOp .add t x y t', ty, pos, aft, none⟩ :: rest) := o_addw hx hy hd (by rw [wrap64_id h0 h1]; exact kk)
theorem o_sub (hx : ev l x = some (.int .i64 i)) (hy : ev l y = some (.int .i64 j)) (h0 : -9223372036854775808 ≤ i - j) (h1 : i - j ≤ 9223372036854775807) (hd : d < n) (kk : Z P ops m n ((d, .int .i64 (i - j)) :: l) B hp rest) :
    Z P ops m n l B hp (⟨some d, .binOp .sub t x y t', ty, pos, aft, none⟩ :: rest) := o_subw hx hy hd (by rw [wrap64_id h0 h1]; exact kk)
theorem o_quo (hx : ev l x = some (.int .i64 i)) (hy : ev l y = some (.int .i64 j)) (h0 : 0 ≤ i) (h1 : 0 < j) (h2 : i ≤ 9223372036854775807) (hd : d < n) (kk : Z P ops m n ((d, .int .i64 (i / j)) :: l) B hp rest) :
    Z P ops m n l B hp (⟨some d, .binOp .quo t x y t', ty, pos, aft, none⟩ :: rest) :=
  o_bin hx hy hd (fun w => by
    have h3 : i.tdiv j = i / j := Int.tdiv_eq_ediv_of_nonneg h0
    have h4 : 0 ≤ i / j := Int.ediv_nonneg h0 (by omega)
    have h5 : i / j ≤ i := Int.ediv_le_self _ h0
    have h6 : j ≠ 0 := by omega
    simp [binOp, Op.intDiv, h3, h6, Sem.run_pure, wrap64_id (show -9223372036854775808 ≤ i / j by omega) (show i / j ≤ 9223372036854775807 by omega)]) kk
theorem o_rem (hx : ev l x = some (.int .i64 i)) (hy : ev l y = some (.int .i64 j)) (h0 : 0 ≤ i) (h1 : 0 < j) (hd : d < n) (kk : Z P ops m n ((d, .int .i64 (i % j)) :: l) B hp rest) :
    Z P ops m n l B hp (⟨some d, .binOp .rem t x y t', ty, pos, aft, none⟩ :: rest) :=
  o_bin hx hy hd (fun w => by
    have h3 : i.tmod j = i % j := Int.tmod_eq_emod_of_nonneg h0
    have h6 : j ≠ 0 := by omega
    simp [binOp, Op.intDiv, h3, h6, Sem.run_pure]) kk
theorem o_eq (hx : ev l x = some (.int k i)) (hy : ev l y = some (.int k j)) (hd : d < n) (kk : Z P ops m n ((d, .bool (decide (i = j))) :: l) B hp rest) :
    Z P ops m n l B hp (⟨some d, .binOp .eql t x y t', ty, pos, aft, none⟩ :: rest) := o_bin hx hy hd (fun w => by simp [binOp, Op.intCmp, Sem.run_pure]; rfl) kk
theorem o_ne (hx : ev l x = some (.int k i)) (hy : ev l y = some (.int k j)) (hd : d < n) (kk : Z P ops m n ((d, .bool (decide (i ≠ j))) :: l) B hp rest) :
    Z P ops m n l B hp (⟨some d, .binOp .neq t x y t', ty, pos, aft, none⟩ :: rest) := o_bin hx hy hd (fun w => by
      simp only [binOp, Op.intCmp, Sem.run_pure, ne_eq, not_true_eq_false, if_false]
      by_cases h : i = j <;> simp [h]) kk
theorem o_lt (hx : ev l x = some (.int k i)) (hy : ev l y = some (.int k j)) (hd : d < n) (kk : Z P ops m n ((d, .bool (decide (i < j))) :: l) B hp rest) :
    Z P ops m n l B hp (⟨some d, .binOp .lss t x y t', ty, pos, aft, none⟩ :: rest) := o_bin hx hy hd (fun w => by simp [binOp, Op.intCmp, Sem.run_pure]) kk
theorem o_le (hx : ev l x = some (.int k i)) (hy : ev l y = some (.int k j)) (hd : d < n) (kk : Z P ops m n ((d, .bool (decide (i ≤ j))) :: l) B hp rest) :
    Z P ops m n l B hp (⟨some d, .binOp .leq t x y t', ty, pos, aft, none⟩ :: rest) := o_bin hx hy hd (fun w => by simp [binOp, Op.intCmp, Sem.run_pure]) kk
theorem o_gt (hx : ev l x = some (.int k i)) (hy : ev l y = some (.int k j)) (hd : d < n) (kk : Z P ops m n ((d, .bool (decide (j < i))) :: l) B hp rest) :
    Z P ops m n l B hp (⟨some d, .binOp .gtr t x y t', ty, pos, aft, none⟩ :: rest) := o_bin hx hy hd (fun w => by simp [binOp, Op.intCmp, Sem.run_pure]) kk
theorem o_ge (hx : ev l x = some (.int k i)) (hy : ev l y = some (.int k j)) (hd : d < n) (kk : Z P ops m n ((d, .bool (decide (j ≤ i))) :: l) B hp rest) :
    Z P ops m n l B hp (⟨some d, .binOp .geq t x y t', ty, pos, aft, none⟩ :: rest) := o_bin hx hy hd (fun w => by simp [binOp, Op.intCmp, Sem.run_pure]) kk
end

/- pointers against nil; bools -/
theorem o_peq {t t' : Nat} {x : Operand} {p : Option Addr} {tab : List TRow} (hT : TabOk P tab) {e s b : Nat} (ht : nth tab t = some ⟨.ptr e, s, b⟩) (hx : ev l x = some (.pointer p)) (hd : d < n)
    (kk : Z P ops m n ((d, .bool p.isNone) :: l) B hp rest) : Z P ops m n l B hp (⟨some d, .binOp .eql t x (.const (.pointer none)) t', ty, pos, aft, none⟩ :: rest) :=
  z_valp (Mode.fits_of rfl) rfl rfl hd (fun a w hA => by
    obtain ⟨dd, i, hu, hk, -⟩ := hT t _ ht
    cases dd <;> simp [kindOf] at hk
    rename_i e'
    have hp : P.underlying t = some (.pointer (P.pointee t)) := by rw [hu]; simp [Program.pointee, hu]
    have hg : (eqGuard .eql t x (.const (.pointer none)) (.pointer p) (.pointer none)).run P w = .ok () w := by
      unfold eqGuard; simp [Sem.run_bind, Sem.run_pure, Result.andThen]
    have hc : a.eval (.const (.pointer none)) = .pointer none := rfl
    simp only [execOp, hA.eval hx, hc, Sem.run_bind, hg, Result.andThen, run_eql_pointer_nil w t p hp, Sem.run_pure]) kk
theorem o_pne {t t' : Nat} {x : Operand} {p : Option Addr} {tab : List TRow} (hT : TabOk P tab) {e s b : Nat} (ht : nth tab t = some ⟨.ptr e, s, b⟩) (hx : ev l x = some (.pointer p)) (hd : d < n)
    (kk : Z P ops m n ((d, .bool (!p.isNone)) :: l) B hp rest) : Z P ops m n l B hp (⟨some d, .binOp .neq t x (.const (.pointer none)) t', ty, pos, aft, none⟩ :: rest) :=
  z_valp (Mode.fits_of rfl) rfl rfl hd (fun a w hA => by
    obtain ⟨dd, i, hu, hk, -⟩ := hT t _ ht
    cases dd <;> simp [kindOf] at hk
    rename_i e'
    have hp : P.underlying t = some (.pointer (P.pointee t)) := by rw [hu]; simp [Program.pointee, hu]
    have hg : (eqGuard .neq t x (.const (.pointer none)) (.pointer p) (.pointer none)).run P w = .ok () w := by
      unfold eqGuard; simp [Sem.run_bind, Sem.run_pure, Result.andThen]
    have hc : a.eval (.const (.pointer none)) = .pointer none := rfl
    simp only [execOp, hA.eval hx, hc, Sem.run_bind, hg, Result.andThen, run_neq_pointer_nil w t p hp, Sem.run_pure]) kk
theorem eqGuard_bool (P : Program) (op : BinOp) (t : TypeId) (x y : Operand) (i j : Bool) (w : World) : (eqGuard op t x y (.bool i) (.bool j)).run P w = .ok () w := by
  unfold eqGuard
  cases op <;> simp [Sem.run_bind, Sem.run_pure, Result.andThen]
theorem o_beq {t t' : Nat} {x y : Operand} {i j : Bool} {tab : List TRow} (hT : TabOk P tab) {s b : Nat} (ht : nth tab t = some ⟨.bool, s, b⟩) (hx : ev l x = some (.bool i)) (hy : ev l y = some (.bool j)) (hd : d < n)
    (kk : Z P ops m n ((d, .bool (i == j)) :: l) B hp rest) : Z P ops m n l B hp (⟨some d, .binOp .eql t x y t', ty, pos, aft, none⟩ :: rest) :=
  z_valp (Mode.fits_of rfl) rfl rfl hd (fun a w hA => by
    obtain ⟨dd, _, hu, hk, -⟩ := hT t _ ht
    cases dd <;> simp [kindOf] at hk
    simp only [execOp, hA.eval hx, hA.eval hy, Sem.run_bind, eqGuard_bool, Result.andThen, run_eql_bool w t i j hu, Sem.run_pure]) kk
theorem o_bne {t t' : Nat} {x y : Operand} {i j : Bool} {tab : List TRow} (hT : TabOk P tab) {s b : Nat} (ht : nth tab t = some ⟨.bool, s, b⟩) (hx : ev l x = some (.bool i)) (hy : ev l y = some (.bool j)) (hd : d < n)
    (kk : Z P ops m n ((d, .bool (!(i == j))) :: l) B hp rest) : Z P ops m n l B hp (⟨some d, .binOp .neq t x y t', ty, pos, aft, none⟩ :: rest) :=
  z_valp (Mode.fits_of rfl) rfl rfl hd (fun a w hA => by
    obtain ⟨dd, _, hu, hk, -⟩ := hT t _ ht
    cases dd <;> simp [kindOf] at hk
    simp only [execOp, hA.eval hx, hA.eval hy, Sem.run_bind, eqGuard_bool, Result.andThen, run_neq_bool w t i j hu, Sem.run_pure]) kk

/- addresses -/
theorem add_mk (b o k : Nat) : (⟨b, o, none⟩ : Addr).add k = ⟨b, o + k, none⟩ := by
  unfold Addr.add; split <;> simp_all
theorem x_field {t i off ft b o : Nat} {fs : List (Nat × Nat)} {s by_ : Nat} {r : TRow} {tab : List TRow} (hT : TabOk P tab) (ht : nth tab t = some ⟨.str fs, s, by_⟩) (hf : nth fs i = some (off, ft)) (hr : nth tab ft = some r)
    (hz : Nat.beq r.size 0 = false) (w : World) : (Instr.fieldAt t (.pointer (some ⟨b, o, none⟩)) i).run P w = .ok (.pointer (some ⟨b, o + off, none⟩)) w := by
  obtain ⟨dd, _, hu, hk, -⟩ := hT t _ ht
  cases dd <;> simp [kindOf] at hk
  rename_i fs'
  rw [nth_eq, ← hk] at hf
  simp only [List.getElem?_map, Option.map_eq_some_iff] at hf
  obtain ⟨f, hf, hfo⟩ := hf
  simp only [Prod.mk.injEq] at hfo
  obtain ⟨rfl, rfl⟩ := hfo
  obtain ⟨_, i', _, _, hi, hs, _⟩ := hT _ _ hr
  have hf' : fs'[i]? = some f := by simpa using hf
  have hz' : ¬ i'.size = 0 := by
    rw [hs]; intro h0; rw [h0] at hz; simp at hz
  simp [Instr.fieldAt, run_underlying hu, hf', Instr.sureAddr, fieldPlace, sizeOf, typeInfo, hi, hz', add_mk, Sem.run_bind, Sem.run_pure, Result.andThen]
theorem o_field0 {t i off ft b : Nat} {fs : List (Nat × Nat)} {s by_ : Nat} {r : TRow} {tab : List TRow} (hT : TabOk P tab) {x : Operand} (hx : ev l x = some (.pointer (some ⟨b, 0, none⟩))) (ht : nth tab t = some ⟨.str fs, s, by_⟩)
    (hf : nth fs i = some (off, ft)) (hr : nth tab ft = some r) (hz : Nat.beq r.size 0 = false) (hd : d < n) (kk : Z P ops m n ((d, .pointer (some ⟨b, off, none⟩)) :: l) B hp rest) :
    Z P ops m n l B hp (⟨some d, .fieldAddr t x i, ty, pos, aft, none⟩ :: rest) :=
  z_valp (Mode.fits_of rfl) rfl rfl hd (fun a w hA => by
    have := x_field (b := b) (o := 0) hT ht hf hr hz w
    rw [Nat.zero_add] at this
    simp only [execOp, hA.eval hx, Sem.run_bind, this, Result.andThen, Sem.run_pure]) kk
theorem o_field {t i off ft b o : Nat} {fs : List (Nat × Nat)} {s by_ : Nat} {r : TRow} {tab : List TRow} (hT : TabOk P tab) {x : Operand} (hx : ev l x = some (.pointer (some ⟨b, o, none⟩))) (ht : nth tab t = some ⟨.str fs, s, by_⟩)
    (hf : nth fs i = some (off, ft)) (hr : nth tab ft = some r) (hz : Nat.beq r.size 0 = false) (hd : d < n) (kk : Z P ops m n ((d, .pointer (some ⟨b, o + off, none⟩)) :: l) B hp rest) :
    Z P ops m n l B hp (⟨some d, .fieldAddr t x i, ty, pos, aft, none⟩ :: rest) :=
  z_valp (Mode.fits_of rfl) rfl rfl hd (fun a w hA => by
    simp only [execOp, hA.eval hx, Sem.run_bind, x_field hT ht hf hr hz w, Result.andThen, Sem.run_pure]) kk
theorem x_index {t e b o len s by_ : Nat} {re : TRow} {k : IntKind} {i : Int} {tab : List TRow} (hT : TabOk P tab) (ht : nth tab t = some ⟨.arr len e, s, by_⟩) (hr : nth tab e = some re) (h0 : 0 ≤ i) (h1 : i < len) (w : World) :
    (Instr.indexAt t (.pointer (some ⟨b, o, none⟩)) (.int k i)).run P w = .ok (.pointer (some ⟨b, o + i.toNat * re.size, none⟩)) w := by
  obtain ⟨dd, _, hu, hk, -⟩ := hT t _ ht
  cases dd <;> simp [kindOf] at hk
  obtain ⟨rfl, rfl⟩ := hk
  obtain ⟨_, i', _, _, hi, hs, _⟩ := hT _ _ hr
  simp [Instr.indexAt, asIntOf, run_underlying hu, Instr.sureAddr, h0, h1, sizeOf, typeInfo, hi, hs, add_mk, Sem.run_bind, Sem.run_pure, Result.andThen]
/-- An array's element, of one cell, the array at the beginning of its block. -/
theorem o_index0 {t e b len s by_ kb : Nat} {re : TKind} {k : IntKind} {i : Int} {tab : List TRow} (hT : TabOk P tab) {x y : Operand} (hx : ev l x = some (.pointer (some ⟨b, 0, none⟩))) (hy : ev l y = some (.int k i))
    (ht : nth tab t = some ⟨.arr len e, s, by_⟩) (hr : nth tab e = some ⟨re, 1, kb⟩) (h0 : 0 ≤ i) (h1 : i < len) (hd : d < n) (kk : Z P ops m n ((d, .pointer (some ⟨b, i.toNat, none⟩)) :: l) B hp rest) :
    Z P ops m n l B hp (⟨some d, .indexAddr t x y, ty, pos, aft, none⟩ :: rest) :=
  z_valp (Mode.fits_of rfl) rfl rfl hd (fun a w hA => by
    have := x_index (b := b) (o := 0) (k := k) hT ht hr h0 h1 w
    simp only [Nat.zero_add, Nat.mul_one] at this
    simp only [execOp, hA.eval hx, hA.eval hy, Sem.run_bind, this, Result.andThen, Sem.run_pure]) kk
theorem o_index1 {t e b o len s by_ kb : Nat} {re : TKind} {k : IntKind} {i : Int} {tab : List TRow} (hT : TabOk P tab) {x y : Operand} (hx : ev l x = some (.pointer (some ⟨b, o, none⟩))) (hy : ev l y = some (.int k i))
    (ht : nth tab t = some ⟨.arr len e, s, by_⟩) (hr : nth tab e = some ⟨re, 1, kb⟩) (h0 : 0 ≤ i) (h1 : i < len) (hd : d < n) (kk : Z P ops m n ((d, .pointer (some ⟨b, o + i.toNat, none⟩)) :: l) B hp rest) :
    Z P ops m n l B hp (⟨some d, .indexAddr t x y, ty, pos, aft, none⟩ :: rest) :=
  z_valp (Mode.fits_of rfl) rfl rfl hd (fun a w hA => by
    have := x_index (b := b) (o := o) (k := k) hT ht hr h0 h1 w
    simp only [Nat.mul_one] at this
    simp only [execOp, hA.eval hx, hA.eval hy, Sem.run_bind, this, Result.andThen, Sem.run_pure]) kk
theorem o_indexn {t e b o len s by_ : Nat} {re : TRow} {k : IntKind} {i : Int} {tab : List TRow} (hT : TabOk P tab) {x y : Operand} (hx : ev l x = some (.pointer (some ⟨b, o, none⟩))) (hy : ev l y = some (.int k i))
    (ht : nth tab t = some ⟨.arr len e, s, by_⟩) (hr : nth tab e = some re) (h0 : 0 ≤ i) (h1 : i < len) (hd : d < n) (kk : Z P ops m n ((d, .pointer (some ⟨b, o + i.toNat * re.size, none⟩)) :: l) B hp rest) :
    Z P ops m n l B hp (⟨some d, .indexAddr t x y, ty, pos, aft, none⟩ :: rest) :=
  z_valp (Mode.fits_of rfl) rfl rfl hd (fun a w hA => by
    simp only [execOp, hA.eval hx, hA.eval hy, Sem.run_bind, x_index hT ht hr h0 h1 w, Result.andThen, Sem.run_pure]) kk

/- loads -/
def TKind.agg : TKind → Bool
  | .arr _ _ => true
  | .str _ => true
  | _ => false
theorem x_isAgg {t : Nat} {r : TRow} {tab : List TRow} (hT : TabOk P tab) (ht : nth tab t = some r) (w : World) : (isAgg t).run P w = .ok r.kind.agg w := by
  obtain ⟨dd, _, hu, hk, -⟩ := hT t _ ht
  rw [← hk]
  cases dd <;> simp [isAgg, run_underlying hu, kindOf, TKind.agg, Sem.run_bind, Sem.run_pure, Result.andThen]
theorem x_sizeOf {t : Nat} {r : TRow} {tab : List TRow} (hT : TabOk P tab) (ht : nth tab t = some r) (w : World) : (sizeOf t).run P w = .ok r.size w := by
  obtain ⟨_, i', _, _, hi, hs, _⟩ := hT _ _ ht
  simp [sizeOf, typeInfo, hi, hs, Sem.run_bind, Sem.run_pure, Result.andThen]
theorem x_load1 {t : Nat} {r : TRow} {tab : List TRow} (hT : TabOk P tab) (ht : nth tab t = some r) (ha : r.kind.agg = false) {p : Addr} {v : Value} {w : World} (hc : w.cell? p = some v) :
    (Instr.loadAt t (.pointer (some p))).run P w = .ok v w := by
  simp [Instr.loadAt, Instr.sureAddr, loadVar, x_isAgg hT ht, ha, load, Sem.run, hc, Sem.run_bind, Sem.run_pure, Result.andThen]
/-- One cell of a chunk. -/
theorem o_load {t b o T : Nat} {cs : List Value} {v : Value} {r : TRow} {tab : List TRow} (hT : TabOk P tab) {x : Operand} (hx : ev l x = some (.pointer (some ⟨b, o, none⟩))) (ht : nth tab t = some r) (ha : r.kind.agg = false)
    (i : Nat) (hi : nth hp i = some (cells b T cs)) (hc : cs[o]? = some v) (hd : d < n) (kk : Z P ops m n ((d, v) :: l) B hp rest) :
    Z P ops m n l B hp (⟨some d, .load t x, ty, pos, aft, none⟩ :: rest) :=
  z_load (Mode.fits_of rfl) rfl rfl hd (fun a w hA hS => by
    rw [nth_eq] at hi
    simp only [execOp, hA.eval hx, Sem.run_bind, x_load1 hT ht ha (hS.cell i hi hc), Result.andThen, Sem.run_pure]) kk
/-- A whole block. -/
theorem o_loadw {t b T : Nat} {cs : List Value} {r : TRow} {tab : List TRow} (hT : TabOk P tab) {x : Operand} (hx : ev l x = some (.pointer (some ⟨b, 0, none⟩))) (ht : nth tab t = some r) (ha : r.kind.agg = true)
    (i : Nat) (hi : nth hp i = some (cells b T cs)) (hc : cs.length = r.size) (hd : d < n) (kk : Z P ops m n ((d, .agg cs.toArray) :: l) B hp rest) :
    Z P ops m n l B hp (⟨some d, .load t x, ty, pos, aft, none⟩ :: rest) :=
  z_load (Mode.fits_of rfl) rfl rfl hd (fun a w hA hS => by
    rw [nth_eq] at hi
    have hl : (loadCells ⟨b, 0, none⟩ cs.length).run P w = .ok cs.toArray w :=
      run_loadCells_list (P := P) w ⟨b, 0, none⟩ cs (fun j v hv => by
        rw [add_mk, Nat.zero_add]
        exact hS.cell i hi hv)
    simp only [execOp, hA.eval hx, Instr.loadAt, Instr.sureAddr, loadVar, x_isAgg hT ht, ha, x_sizeOf hT ht, ← hc, hl, Sem.run_bind, Result.andThen, Sem.run_pure, if_true]) kk
end
end
end Go.Proofs.Ytnckabgaichkkaa.Eng
