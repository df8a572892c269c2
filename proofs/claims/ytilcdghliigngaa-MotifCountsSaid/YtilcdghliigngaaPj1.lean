/- Part of a claim: the program logic, the contracts of the functions, their models. No condition. -/
import Derived.WalkKit
import Derived.OwnWalkIn
import Derived.TacticsInMore
import Derived.OrdersIn
import Derived.RangeFuncLeaves
import Derived.RangeFuncNested
import Derived.Maps.AppendAt
import Derived.Shelf.Abstract
import Derived.Test.YtilcdghliigngaaProg
import Derived.MapKept
import Derived.Laws.StructEq
import Derived.Laws.OwnMore
namespace Go.Proofs.YtilcdghliigngaaPm
set_option linter.unusedVariables false
set_option linter.unusedSimpArgs false
structure Prm where
  (lk leak bias th rk rs fl rest : Int)
  deriving DecidableEq
structure Syn where
  (src dst wt dl : Int)
  deriving DecidableEq
structure Evt where
  (tick id : Int)
  deriving DecidableEq
structure NetP where
  (ns : List Prm) (inp : Int) (ss : List Syn)
  deriving DecidableEq
structure Stt where
  (v rest : Int)
  deriving DecidableEq
structure Edg where
  (src dst len : Int)
  deriving DecidableEq
structure Tap where
  (inp wt dl : Int)
  deriving DecidableEq
structure Mrk where
  (inp off : Int)
  deriving DecidableEq
def onceP (h : Int) : Prm := ⟨0, 0, 0, h, 0, 0, -1048576, 0⟩
def gateP (h : Int) : Prm := ⟨2, 256, 0, h, 0, 0, 0, 0⟩
def adderP (h : Int) : Prm := ⟨0, 0, 0, h, 1, 0, 0, 0⟩
def setTh (p : Prm) (h : Int) : Prm := { p with th := h }
def selvesFrom (i : Nat) : Nat → List Syn
  | 0 => []
  | n + 1 => ⟨(i : Int), (i : Int), -32768, 1⟩ :: selvesFrom (i + 1) n
end Go.Proofs.YtilcdghliigngaaPm
namespace Go.Proofs.YtilcdghliigngaaGl
set_option linter.unusedVariables false
set_option linter.unusedSimpArgs false
open Go.RowKit
structure Atom where
  P : World → (Nat → Prop) → Prop
  loc : ∀ {w w' : World} {S : Nat → Prop}, P w S → (∀ k, S k → w'.heap[k]? = w.heap[k]?) → P w' S
  lt : ∀ {w : World} {S : Nat → Prop} {k : Nat}, P w S → S k → k < w.heap.size
def Sats (w : World) : List Atom → (Nat → Prop) → Prop
  | [], T => ∀ k, ¬ T k
  | a :: A, T => ∃ S U, a.P w S ∧ Sats w A U ∧ (∀ k, S k → ¬ U k) ∧ (∀ k, T k ↔ S k ∨ U k)
structure Sat (w0 w : World) (A : List Atom) : Prop where
  below : Below w0.heap.size w0 w
  sats : ∃ T, Sats w A T ∧ ∀ k, T k → w0.heap.size ≤ k
theorem Sats.loc {w w' : World} : ∀ {A : List Atom} {T : Nat → Prop}, Sats w A T → (∀ k, T k → w'.heap[k]? = w.heap[k]?) → Sats w' A T
  | [], _, h, _ => h
  | _ :: _, _, ⟨S, U, ha, hA, hd, ht⟩, hs => ⟨S, U, Atom.loc _ ha (fun k hk => hs k ((ht k).2 (.inl hk))), Sats.loc hA (fun k hk => hs k ((ht k).2 (.inr hk))), hd, ht⟩
theorem Sats.lt {w : World} : ∀ {A : List Atom} {T : Nat → Prop}, Sats w A T → ∀ k, T k → k < w.heap.size
  | [], _, h, k, hk => (h k hk).elim
  | a :: _, _, ⟨_, _, ha, hA, _, ht⟩, k, hk => ((ht k).1 hk).elim (fun h => a.lt ha h) (fun h => Sats.lt hA k h)
theorem Sats.iff {w : World} {A : List Atom} {T T' : Nat → Prop} (h : Sats w A T) (hT : ∀ k, T k ↔ T' k) : Sats w A T' := by
  cases A with
  | nil => exact fun k hk => h k ((hT k).2 hk)
  | cons a A => obtain ⟨S, U, ha, hA, hd, ht⟩ := h; exact ⟨S, U, ha, hA, hd, fun k => (hT k).symm.trans (ht k)⟩
theorem Sats.swap {w : World} {a b : Atom} {A : List Atom} {T : Nat → Prop} (h : Sats w (a :: b :: A) T) : Sats w (b :: a :: A) T := by
  obtain ⟨S, U, ha, ⟨S', U', hb, hA, hd', ht'⟩, hd, ht⟩ := h
  refine ⟨S', fun k => S k ∨ U' k, hb, ⟨S, U', ha, hA, fun k hk hu => hd k hk ((ht' k).2 (.inr hu)), fun _ => Iff.rfl⟩, ?_, ?_⟩
  · rintro k hk (h1 | h1)
    · exact hd k h1 ((ht' k).2 (.inl hk))
    · exact hd' k hk h1
  · intro k
    rw [ht k, ht' k]
    constructor
    · rintro (h | h | h)
      · exact .inr (.inl h)
      · exact .inl h
      · exact .inr (.inr h)
    · rintro (h | h | h)
      · exact .inr (.inl h)
      · exact .inl h
      · exact .inr (.inr h)
inductive Upd : List Atom → Atom → Atom → List Atom → Prop
  | here {a a' : Atom} {A : List Atom} : Upd (a :: A) a a' (a' :: A)
  | there {a a' b : Atom} {A A' : List Atom} : Upd A a a' A' → Upd (b :: A) a a' (b :: A')
inductive Pull : List Atom → Atom → List Atom → Prop
  | here {a : Atom} {A : List Atom} : Pull (a :: A) a A
  | there {a b : Atom} {A A' : List Atom} : Pull A a A' → Pull (b :: A) a (b :: A')
theorem Sats.pull {w : World} {a : Atom} {A A' : List Atom} (hp : Pull A a A') : ∀ {T : Nat → Prop}, Sats w A T → Sats w (a :: A') T := by
  induction hp with
  | here => exact fun h => h
  | there _ ih =>
    intro T h
    obtain ⟨S, U, hb, hA, hd, ht⟩ := h
    exact Sats.swap ⟨S, U, hb, ih hA, hd, ht⟩
theorem Sats.push {w : World} {a : Atom} {A A' : List Atom} (hp : Pull A a A') : ∀ {T : Nat → Prop}, Sats w (a :: A') T → Sats w A T := by
  induction hp with
  | here => exact fun h => h
  | there _ ih =>
    intro T h
    obtain ⟨S, U, hb, hA, hd, ht⟩ := Sats.swap h
    exact ⟨S, U, hb, ih hA, hd, ht⟩
theorem Upd.pull {A A' : List Atom} {a a' : Atom} (h : Upd A a a' A') : ∃ R, Pull A a R ∧ Pull A' a' R := by
  induction h with
  | here => exact ⟨_, .here, .here⟩
  | there _ ih => obtain ⟨R, h1, h2⟩ := ih; exact ⟨_, .there h1, .there h2⟩
theorem Sat.pull {w0 w : World} {a : Atom} {A A' : List Atom} (h : Sat w0 w A) (hp : Pull A a A') : Sat w0 w (a :: A') :=
  ⟨h.below, let ⟨T, hs, ht⟩ := h.sats; ⟨T, hs.pull hp, ht⟩⟩
theorem Sat.push {w0 w : World} {a : Atom} {A A' : List Atom} (h : Sat w0 w (a :: A')) (hp : Pull A a A') : Sat w0 w A :=
  ⟨h.below, let ⟨T, hs, ht⟩ := h.sats; ⟨T, hs.push hp, ht⟩⟩
theorem Sat.nil (w : World) : Sat w w [] := ⟨Below.refl _ _, fun _ => False, fun _ h => h, fun _ h => h.elim⟩
theorem Sat.later {w0 w w' : World} {A : List Atom} (h : Sat w0 w A) (hb : Below w.heap.size w w') : Sat w0 w' A := by
  obtain ⟨hB, T, hs, ht⟩ := h
  exact ⟨hB.trans (hb.mono hB.size), T, hs.loc (fun k hk => hb.block k (hs.lt k hk)), ht⟩
theorem Sat.drew {w0 w : World} {A : List Atom} (h : Sat w0 w A) : Sat w0 w.drew A := h.later (Below.drew (Below.refl _ _))
theorem Sat.step {w0 w : World} {a : Atom} {A : List Atom} (h : Sat w0 w (a :: A)) :
    ∃ S, a.P w S ∧ (∀ k, S k → w0.heap.size ≤ k) ∧ ∀ {w' : World} {a' : Atom} {S' : Nat → Prop}, a'.P w' S' → (∀ k, S' k → S k ∨ w.heap.size ≤ k) →
      w'.os = w.os → w'.tape = w.tape → w'.output = w.output → w.heap.size ≤ w'.heap.size → (∀ k, k < w.heap.size → ¬ S k → w'.heap[k]? = w.heap[k]?) → Sat w0 w' (a' :: A) := by
  obtain ⟨hB, T, ⟨S, U, ha, hA, hd, ht⟩, hT⟩ := h
  refine ⟨S, ha, fun k hk => hT k ((ht k).2 (.inl hk)), ?_⟩
  intro w' a' S' ha' hS' h1 h2 h3 hz hsame
  have hU : ∀ k, U k → w'.heap[k]? = w.heap[k]? := fun k hk => hsame k (hA.lt k hk) (fun hs => hd k hs hk)
  refine ⟨hB.trans ⟨h1, h2, h3, hz, fun k hk => hsame k (Nat.lt_of_lt_of_le hk hB.size) (fun hs => ?_)⟩, fun k => S' k ∨ U k, ⟨S', U, ha', hA.loc hU, ?_, fun _ => Iff.rfl⟩, ?_⟩
  · have := hT k ((ht k).2 (.inl hs)); omega
  · intro k hk hu
    rcases hS' k hk with h | h
    · exact hd k h hu
    · have := hA.lt k hu; omega
  · rintro k (hk | hk)
    · rcases hS' k hk with h | h
      · exact hT k ((ht k).2 (.inl h))
      · have := hB.size; omega
    · exact hT k ((ht k).2 (.inr hk))
theorem Sat.add {w0 w w' : World} {a : Atom} {S : Nat → Prop} {A : List Atom} (h : Sat w0 w A) (hb : Below w.heap.size w w') (ha : a.P w' S) (hS : ∀ k, S k → w.heap.size ≤ k) : Sat w0 w' (a :: A) := by
  have h' := h.later hb
  obtain ⟨hB, T, hs, ht⟩ := h
  refine ⟨h'.below, fun k => S k ∨ T k, ⟨S, T, ha, hs.loc (fun k hk => hb.block k (hs.lt k hk)), fun k hk hT => ?_, fun _ => Iff.rfl⟩, ?_⟩
  · have := hS k hk; have := hs.lt k hT; omega
  · rintro k (hk | hk)
    · have := hS k hk; have := hB.size; omega
    · exact ht k hk
theorem Sat.drop {w0 w : World} {a : Atom} {A : List Atom} (h : Sat w0 w (a :: A)) : Sat w0 w A := by
  obtain ⟨hB, T, ⟨S, U, ha, hA, hd, ht⟩, hT⟩ := h
  exact ⟨hB, U, hA, fun k hk => hT k ((ht k).2 (.inr hk))⟩
end Go.Proofs.YtilcdghliigngaaGl
namespace Go.Proofs.YtilcdghliigngaaGl
set_option linter.unusedVariables false
set_option linter.unusedSimpArgs false
open Go.RowKit
abbrev Env := List (Nat × Value)
def lk : Env → Nat → Option Value
  | [], _ => none
  | (t, v) :: r, s => match Nat.beq t s with
    | true => some v
    | false => lk r s
structure Kn (n : Nat) (D : List Deferred) (L : Env) (a : Act) : Prop where
  size : a.tmps.size = n
  defers : a.defers = D
  look : ∀ t v, lk L t = some v → a.tmps[t]? = some v
def ev (L : Env) : Operand → Option Value
  | .tmp t => lk L t
  | .const v => some v
  | .global g => some (.pointer (some ⟨g, 0, none⟩))
  | .func f => some (.func (.func f) #[] #[])
theorem Kn.ev {n : Nat} {D : List Deferred} {L : Env} {a : Act} (h : Kn n D L a) {x : Operand} {v : Value} (hx : ev L x = some v) : a.eval x = v := by
  cases x with
  | tmp t =>
    have h1 := h.look t v hx
    simp [Act.eval, Array.getD_eq_getD_getElem?, h1]
  | const u => exact Option.some.inj hx
  | global g => exact Option.some.inj hx
  | func f => exact Option.some.inj hx
theorem lk_cons (t : Nat) (v : Value) (L : Env) (s : Nat) : lk ((t, v) :: L) s = if t = s then some v else lk L s := by
  simp only [lk]
  cases hb : Nat.beq t s with
  | true => have := Nat.eq_of_beq_eq_true hb; simp [this]
  | false => have := Nat.ne_of_beq_eq_false hb; simp [this]
theorem Kn.put {n : Nat} {D : List Deferred} {L : Env} {a : Act} (h : Kn n D L a) {t : Nat} (ht : t < n) (v : Value) : Kn n D ((t, v) :: L) (a.put (some t) v) := by
  refine ⟨by simp [Act.put, h.size], by simp [Act.put, h.defers], fun s u hs => ?_⟩
  rw [lk_cons] at hs
  by_cases e : t = s
  · subst e
    rw [if_pos rfl] at hs
    obtain rfl := Option.some.inj hs
    simp [Act.put, Array.getElem?_setIfInBounds, h.size, ht]
  · rw [if_neg e] at hs
    simp only [Act.put]
    rw [Array.getElem?_setIfInBounds_ne e]
    exact h.look s u hs
def Sub : Env → Env → Prop
  | [], _ => True
  | (t, v) :: r, L => lk L t = some v ∧ Sub r L
theorem Sub.look : ∀ {L' L : Env}, Sub L' L → ∀ t v, lk L' t = some v → lk L t = some v
  | [], _, _, t, v, h => by simp [lk] at h
  | (s, u) :: r, L, h, t, v, hl => by
    rw [lk_cons] at hl
    by_cases e : s = t
    · rw [if_pos e] at hl; obtain rfl := Option.some.inj hl; exact e ▸ h.1
    · rw [if_neg e] at hl; exact Sub.look h.2 t v hl
theorem Kn.sub {n : Nat} {D : List Deferred} {L L' : Env} {a : Act} (h : Kn n D L a) (hs : Sub L' L) : Kn n D L' a := ⟨h.size, h.defers, fun t v hl => h.look t v (hs.look t v hl)⟩
def gd (ops : Array Oper) (L : Env) (o : Oper) : Option Bool :=
  match o.guard with
  | none => some true
  | some (j, want) =>
    match (ops[j]?).bind (·.dst) with
    | some d =>
      match lk L d with
      | some (.bool b) => some (b == want)
      | some _ => some false
      | none => none
    | none => some false
theorem Kn.gd {n : Nat} {D : List Deferred} {L : Env} {a : Act} (h : Kn n D L a) {ops : Array Oper} {o : Oper} {b : Bool} (hg : gd ops L o = some b) : Region.wanted o (yielded ops a.tmps) = b := by
  unfold Region.wanted
  unfold YtilcdghliigngaaGl.gd at hg
  cases ho : o.guard with
  | none => rw [ho] at hg; exact Option.some.inj hg
  | some p =>
    obtain ⟨j, want⟩ := p
    rw [ho] at hg
    simp only [] at hg ⊢
    cases hd : (ops[j]?).bind (·.dst) with
    | none =>
      rw [hd] at hg
      have : yielded ops a.tmps j = none := by simp [yielded, hd]
      rw [this]
      obtain rfl := Option.some.inj hg
      simp
    | some d =>
      rw [hd] at hg
      simp only [] at hg
      cases hl : lk L d with
      | none => rw [hl] at hg; cases hg
      | some v =>
        rw [hl] at hg
        have h1 := h.look d v hl
        cases v with
        | bool c =>
          have : yielded ops a.tmps j = some c := by simp [yielded, hd, h1]
          rw [this]
          obtain rfl := Option.some.inj hg
          simp
        | _ =>
          have : yielded ops a.tmps j = none := by simp [yielded, hd, h1]
          rw [this]
          obtain rfl := Option.some.inj hg
          simp
abbrev Fw (r : Option Nat) : Fence := { fn := fun _ => True, depth := none, alive := false, round := r }
theorem callsIn_Fw {r : Option Nat} {n : Nat} {P : Program} {f : FuncId} {args : Array Value} {w : World} {R : Ending → World → Prop} (h : Calls P f args w R) : CallsIn (Fw r) n P f args w R := by
  have h' : CallsIn Fence.wide n P f args w R := callsIn_wide.2 h
  cases r with
  | none => exact h'
  | some l => exact CallsIn.inRound l h'
def Ops (P : Program) (r : Option Nat) (ops : Array Oper) (Q : Exit → Act → World → Prop) (w0 : World) (n : Nat) (D : List Deferred) (rest : List Oper) (L : Env) (A : List Atom) : Prop :=
  ∀ a w, Kn n D L a → Sat w0 w A → wpListIn (Fw r) 0 P ops Q rest a w
def Cd (P : Program) (r : Option Nat) (c : Code) (Q : Exit → Act → World → Prop) (w0 : World) (n : Nat) (D : List Deferred) (L : Env) (A : List Atom) : Prop :=
  ∀ a w, Kn n D L a → Sat w0 w A → c.wpIn (Fw r) 0 P Q a w
def noDefer : Op → Bool
  | .defer _ => false
  | _ => true
theorem semAt_noDefer {r : Option Nat} (ρ : Operand → Value) (o : Oper) (h : noDefer o.op = true) : o.semAt r ρ = execOp ρ o := by
  cases r with
  | none => exact Oper.semAt_none ..
  | some l => exact Oper.semAt_some l ρ o (fun c hc => by rw [hc] at h; cases h)
section
variable {P : Program} {r : Option Nat} {ops : Array Oper} {Q : Exit → Act → World → Prop} {w0 : World} {n : Nat} {D : List Deferred} {rest : List Oper} {L : Env} {A : List Atom}
theorem Cd.sat {c : Code} {A' : List Atom} (h : Cd P r c Q w0 n D L A') (hs : ∀ w, Sat w0 w A → Sat w0 w A') : Cd P r c Q w0 n D L A := fun a w hk hsat => h a w hk (hs w hsat)
theorem Ops.sat {A' : List Atom} (h : Ops P r ops Q w0 n D rest L A') (hs : ∀ w, Sat w0 w A → Sat w0 w A') : Ops P r ops Q w0 n D rest L A := fun a w hk hsat => h a w hk (hs w hsat)
theorem Ops.pull {a : Atom} {A' : List Atom} (hp : Pull A a A') (h : Ops P r ops Q w0 n D rest L (a :: A')) : Ops P r ops Q w0 n D rest L A := h.sat (fun _ hs => hs.pull hp)
theorem Cd.pull {c : Code} {a : Atom} {A' : List Atom} (hp : Pull A a A') (h : Cd P r c Q w0 n D L (a :: A')) : Cd P r c Q w0 n D L A := h.sat (fun _ hs => hs.pull hp)
theorem Ops.drop {a : Atom} {A' : List Atom} (hp : Pull A a A') (h : Ops P r ops Q w0 n D rest L A') : Ops P r ops Q w0 n D rest L A := h.sat (fun _ hs => (hs.pull hp).drop)
theorem Cd.drop {c : Code} {a : Atom} {A' : List Atom} (hp : Pull A a A') (h : Cd P r c Q w0 n D L A') : Cd P r c Q w0 n D L A := h.sat (fun _ hs => (hs.pull hp).drop)
theorem Ops.skip {o : Oper} {t : Nat} (hg : gd ops L o = some false) (hd : o.dst = some t) (ht : Nat.blt t n = true) (h : Ops P r ops Q w0 n D rest ((t, undef) :: L) A) :
    Ops P r ops Q w0 n D (o :: rest) L A := by
  intro a w hk hs
  unfold wpListIn
  rw [hk.gd hg]
  simp only [Bool.false_eq_true, if_false]
  rw [hd]
  exact ⟨fun _ _ => trivial, h _ _ (hk.put (by simpa [Nat.blt_eq] using ht) _) hs⟩
theorem Ops.val {α : Type} {o : Oper} {t : Nat} {v : α → Value} {A' : α → List Atom} (hg : gd ops L o = some true) (hd : o.dst = some t) (ht : Nat.blt t n = true) (hnd : noDefer o.op = true)
    (hrun : ∀ a w, Kn n D L a → Sat w0 w A → ∃ x w', (execOp a.eval o).run P w = .ok (.value (v x)) w' ∧ Sat w0 w' (A' x))
    (h : ∀ x, Ops P r ops Q w0 n D rest ((t, v x) :: L) (A' x)) : Ops P r ops Q w0 n D (o :: rest) L A := by
  intro a w hk hs
  unfold wpListIn
  rw [hk.gd hg]
  simp only [if_true]
  obtain ⟨x, w', hr, hs'⟩ := hrun a w hk hs
  refine ⟨fun _ _ => trivial, ?_⟩
  rw [semAt_noDefer _ _ hnd, hr, Oper.uponIn_value, hd]
  exact h x _ _ (hk.put (by simpa [Nat.blt_eq] using ht) _) hs'
theorem Ops.same {o : Oper} {t : Nat} {v : Value} (hg : gd ops L o = some true) (hd : o.dst = some t) (ht : Nat.blt t n = true) (hnd : noDefer o.op = true)
    (hrun : ∀ a w, Kn n D L a → Sat w0 w A → (execOp a.eval o).run P w = .ok (.value v) w) (h : Ops P r ops Q w0 n D rest ((t, v) :: L) A) : Ops P r ops Q w0 n D (o :: rest) L A :=
  Ops.val (α := Unit) hg hd ht hnd (fun a w hk hs => ⟨(), w, hrun a w hk hs, hs⟩) (fun _ => h)
def Qv (P : Program) (w0 : World) (n : Nat) (D : List Deferred) (L : Env) (A : List Atom) (op : Op) (v : Value) : Prop :=
  ∀ (a : Act) (w : World), Kn n D L a → Sat w0 w A → ∀ (dst : Option Tmp) (ty : TypeId) (pos : String) (af : Array Edge) (g : Option (Nat × Bool)), (execOp a.eval ⟨dst, op, ty, pos, af, g⟩).run P w = .ok (.value v) w ∧ noDefer op = true
theorem Ops.q {op : Op} {v : Value} {t : Nat} {ty : TypeId} {pos : String} {af : Array Edge} {g : Option (Nat × Bool)} (hq : Qv P w0 n D L A op v) (h : Ops P r ops Q w0 n D rest ((t, v) :: L) A)
    (hg : gd ops L ⟨some t, op, ty, pos, af, g⟩ = some true := by rfl) (ht : Nat.blt t n = true := by rfl) : Ops P r ops Q w0 n D (⟨some t, op, ty, pos, af, g⟩ :: rest) L A := by
  intro a w hk hs
  exact Ops.same hg rfl ht (hq a w hk hs none ty pos af g).2 (fun a w hk hs => (hq a w hk hs _ ty pos af g).1) h a w hk hs
theorem Ops.act {α : Type} {o : Oper} {A' : α → List Atom} (hg : gd ops L o = some true) (hd : o.dst = none) (hnd : noDefer o.op = true)
    (hrun : ∀ a w, Kn n D L a → Sat w0 w A → ∃ x w', (execOp a.eval o).run P w = .ok .skip w' ∧ Sat w0 w' (A' x))
    (h : ∀ x, Ops P r ops Q w0 n D rest L (A' x)) : Ops P r ops Q w0 n D (o :: rest) L A := by
  intro a w hk hs
  unfold wpListIn
  rw [hk.gd hg]
  simp only [if_true]
  obtain ⟨x, w', hr, hs'⟩ := hrun a w hk hs
  refine ⟨fun _ _ => trivial, ?_⟩
  rw [semAt_noDefer _ _ hnd, hr, Oper.uponIn_skip, hd]
  exact h x _ _ hk hs'
theorem Ops.call {α : Type} {o : Oper} {t : Nat} {f : FuncId} {args : Array Value} {v : α → Value} {A' : α → List Atom} (hg : gd ops L o = some true) (hd : o.dst = some t) (ht : Nat.blt t n = true) (hnd : noDefer o.op = true)
    (hrun : ∀ a w, Kn n D L a → Sat w0 w A → (execOp a.eval o).run P w = .ok (.enter f args) w)
    (hc : ∀ w, Sat w0 w A → Calls P f args w fun e w' => ∃ x, e = .returned (v x) ∧ Sat w0 w' (A' x))
    (h : ∀ x, Ops P r ops Q w0 n D rest ((t, v x) :: L) (A' x)) : Ops P r ops Q w0 n D (o :: rest) L A := by
  intro a w hk hs
  unfold wpListIn
  rw [hk.gd hg]
  simp only [if_true]
  refine ⟨fun _ _ => trivial, ?_⟩
  rw [semAt_noDefer _ _ hnd, hrun a w hk hs, Oper.uponIn_enter]
  refine ⟨fun hn => (by simp at hn), callsIn_Fw ((hc w hs).mono fun e w' he => ?_)⟩
  obtain ⟨x, rfl, hs'⟩ := he
  rw [hd]
  exact h x _ _ (hk.put (by simpa [Nat.blt_eq] using ht) _) hs'
theorem Ops.nil (h : ∀ a w, Kn n D L a → Sat w0 w A → Q .normal a w) : Ops P r ops Q w0 n D [] L A := fun a w hk hs => h a w hk hs
theorem Cd.region {id : Nat} {l : List Oper} (h : Ops P r l.toArray Q w0 n D l L A) : Cd P r (.region id l.toArray false) Q w0 n D L A := fun a w hk hs => wpIn_region_lit (h a w hk hs)
theorem Cd.seq {x y : Code} (h : Cd P r x (Exit.then (y.wpIn (Fw r) 0 P Q) Q) w0 n D L A) : Cd P r (.seq x y) Q w0 n D L A := fun a w hk hs => wpIn_seq (h a w hk hs)
theorem Cd.skip (h : ∀ a w, Kn n D L a → Sat w0 w A → Q .normal a w) : Cd P r .skip Q w0 n D L A := fun a w hk hs => wpIn_skip (h a w hk hs)
theorem Cd.ret (h : ∀ a w, Kn n D L a → Sat w0 w A → Q .ret a w) : Cd P r .ret Q w0 n D L A := fun a w hk hs => wpIn_ret (h a w hk hs)
theorem Cd.exit {id : Nat} (h : ∀ a w, Kn n D L a → Sat w0 w A → Q (.exit id) a w) : Cd P r (.exit id) Q w0 n D L A := fun a w hk hs => wpIn_exit (h a w hk hs)
theorem Cd.block {id : Nat} {c : Code} (h : Cd P r c (Exit.inBlock id Q) w0 n D L A) : Cd P r (.block id c) Q w0 n D L A := fun a w hk hs => wpIn_block (h a w hk hs)
theorem Cd.cond {c : Operand} {x y : Code} {b : Bool} (hc : ev L c = some (.bool b)) (ht : b = true → Cd P r x Q w0 n D L A) (hf : b = false → Cd P r y Q w0 n D L A) : Cd P r (.cond c x y) Q w0 n D L A :=
  fun a w hk hs => wpIn_cond_split (hk.ev hc) (fun h => ht h a w hk hs) (fun h => hf h a w hk hs)
theorem Cd.cond_t {c : Operand} {x y : Code} (hc : ev L c = some (.bool true)) (h : Cd P r x Q w0 n D L A) : Cd P r (.cond c x y) Q w0 n D L A := fun a w hk hs => wpIn_cond_true (hk.ev hc) (h a w hk hs)
theorem Cd.cond_f {c : Operand} {x y : Code} (hc : ev L c = some (.bool false)) (h : Cd P r y Q w0 n D L A) : Cd P r (.cond c x y) Q w0 n D L A := fun a w hk hs => wpIn_cond_false (hk.ev hc) (h a w hk hs)
theorem Cd.to {y : Code} {Q' : Exit → Act → World → Prop} {e : Exit} (hq : Q e = y.wpIn (Fw r) 0 P Q') (h : Cd P r y Q' w0 n D L A) : ∀ a w, Kn n D L a → Sat w0 w A → Q e a w := fun a w hk hs => by rw [hq]; exact h a w hk hs
theorem exists_least {p : Nat → Prop} (h : ∃ k, p k) : ∃ k, p k ∧ ∀ j, p j → k ≤ j := by
  obtain ⟨m, hm⟩ := h
  induction m using Nat.strongRecOn with
  | _ m ih =>
    by_cases hex : ∃ j, j < m ∧ p j
    · obtain ⟨j, hj, hpj⟩ := hex; exact ih j hj hpj
    · exact ⟨m, hm, fun j hj => Nat.le_of_not_lt fun hlt => hex ⟨j, hlt, hj⟩⟩
open Classical in
noncomputable def least (p : Nat → Prop) : Nat := if h : ∃ k, p k then Classical.choose (exists_least h) else 0
theorem least_spec {p : Nat → Prop} (h : ∃ k, p k) : p (least p) := by
  unfold least; rw [dif_pos h]; exact (Classical.choose_spec (exists_least h)).1
theorem least_le {p : Nat → Prop} {k : Nat} (h : p k) : least p ≤ k := by
  unfold least; rw [dif_pos ⟨k, h⟩]; exact (Classical.choose_spec (exists_least ⟨k, h⟩)).2 k h
theorem Cd.loop {σ : Type} {c : Code} (I : σ → Prop) (Ls : σ → Env) (As : σ → List Atom) (μ : σ → Nat) (s0 : σ) (h0 : I s0) (hL : Sub (Ls s0) L) (hA : ∀ w, Sat w0 w A → Sat w0 w (As s0))
    (round : ∀ s, I s → Cd P r c (Exit.then (fun a w => ∃ s', I s' ∧ μ s' < μ s ∧ Kn n D (Ls s') a ∧ Sat w0 w (As s')) Q) w0 n D (Ls s) (As s)) : Cd P r (.loop c) Q w0 n D L A := by
  intro a w hk hs
  let p : Act → World → Nat → Prop := fun a w k => ∃ s, I s ∧ μ s = k ∧ Kn n D (Ls s) a ∧ Sat w0 w (As s)
  refine wpIn_loop (fun a w => ∃ k, p a w k) (fun a w => least (p a w)) ⟨_, s0, h0, rfl, hk.sub hL, hA w hs⟩ ?_
  intro a w hp
  obtain ⟨s, hI, hm, hk, hs⟩ := least_spec hp
  refine wpIn_mono (round s hI a w hk hs) ?_
  intro e a' w' hq
  cases e with
  | normal =>
    obtain ⟨s', hI', hlt, hk', hs'⟩ := hq
    have h1 : p a' w' (μ s') := ⟨s', hI', rfl, hk', hs'⟩
    exact ⟨⟨_, h1⟩, Nat.lt_of_le_of_lt (least_le h1) (by rw [← hm]; exact hlt)⟩
  | exit id => exact hq
  | goto l => exact hq
  | ret => exact hq
  | panic ch => exact hq
  | outgrown => exact hq
end
end Go.Proofs.YtilcdghliigngaaGl
namespace Go.Proofs.YtilcdghliigngaaGl
set_option linter.unusedVariables false
set_option linter.unusedSimpArgs false
open Go.RowKit
def blk (b : Nat) (T : TypeId) (cs : List Value) : Atom where
  P := fun w S => w.heap[b]? = some (.cells cs.toArray T (0, 0)) ∧ ∀ k, S k ↔ k = b
  loc := fun h hs => ⟨(hs b ((h.2 b).2 rfl)).trans h.1, h.2⟩
  lt := fun h hk => by rw [(h.2 _).1 hk]; exact (Array.getElem?_eq_some_iff.1 h.1).1
def row (a : Option Addr) (cap : Nat) (E : TypeId) (sz n : Nat) (cs : List Value) : Atom where
  P := fun w S => w.ownsRow 0 E sz (.slice a n cap) n cs ∧ ∀ k, S k ↔ (Value.slice a n cap).ownBlock = some k
  loc := fun {w w' S} h hs => by
    refine ⟨⟨h.1.1, ?_⟩, h.2⟩
    rcases h.1.2 with h1 | ⟨g, cp, cur, hv, hg, hh, hr⟩
    · exact .inl h1
    · refine .inr ⟨g, cp, cur, hv, hg, ?_, hr⟩
      rw [hs g ((h.2 g).2 (by rw [hv]; rfl))]; exact hh
  lt := fun h hk => (h.1.lt _ ((h.2 _).1 hk)).2
theorem Sat.mem {w0 w : World} {a : Atom} {A A' : List Atom} (h : Sat w0 w A) (hp : Pull A a A') : ∃ S, a.P w S := by
  obtain ⟨T, ⟨S, _, ha, _⟩, _⟩ := (h.pull hp).sats
  exact ⟨S, ha⟩
theorem Sat.ofBlk {w0 w : World} {b : Nat} {T : TypeId} {cs : List Value} {A A' : List Atom} (h : Sat w0 w A) (hp : Pull A (blk b T cs) A') : w.heap[b]? = some (.cells cs.toArray T (0, 0)) := by
  obtain ⟨S, h1, _⟩ := h.mem hp; exact h1
theorem cell_of_blk {w : World} {b : Nat} {T : TypeId} {cs : List Value} {fr : Nat × Nat} (h : w.heap[b]? = some (.cells cs.toArray T fr)) (o : Nat) : w.cell? ⟨b, o, none⟩ = cs[o]? := by
  simp [World.cell?, h]
def Ro (w : World) (a : Option Addr) (cs : List Value) : Prop := ∀ j u, cs[j]? = some u → ∃ b o, a = some ⟨b, o, none⟩ ∧ w.cell? ⟨b, o + j, none⟩ = some u
theorem Ro.later {w w' : World} {a : Option Addr} {cs : List Value} (h : Ro w a cs) (hb : Below w.heap.size w w') : Ro w' a cs := by
  intro j u hu
  obtain ⟨b, o, ha, hc⟩ := h j u hu
  exact ⟨b, o, ha, (hb.cell (p := ⟨b, o + j, none⟩) (World.block_lt_of_cell? w _ hc)).trans hc⟩
theorem Ro.nil (w : World) (a : Option Addr) : Ro w a [] := fun j u hu => by simp at hu
theorem Sat.own {w0 w : World} {a : Option Addr} {cap : Nat} {E : TypeId} {sz n : Nat} {cs : List Value} {A A' : List Atom} (h : Sat w0 w A) (hp : Pull A (row a cap E sz n cs) A') : w.ownsRow 0 E sz (.slice a n cap) n cs := by
  obtain ⟨S, h1, _⟩ := h.mem hp; exact h1
theorem ro_of_own {w : World} {a : Option Addr} {cap : Nat} {E : TypeId} {sz n : Nat} {cs : List Value} (h : w.ownsRow 0 E sz (.slice a n cap) n cs) : Ro w a cs := by
  intro j u hu
  rcases h.2 with ⟨_, h0⟩ | ⟨g, cp, cur, hv, _, hh, _, _, _, ht⟩
  · have := h.1; subst h0; simp at this; subst this; simp at hu
  · cases hv
    refine ⟨g, 0, rfl, ?_⟩
    rw [← ht, List.getElem?_take] at hu
    split at hu
    · simpa [World.cell?, hh] using hu
    · cases hu
theorem Sat.ownRo {w0 w : World} {a : Option Addr} {cap : Nat} {E : TypeId} {sz n : Nat} {cs : List Value} {A A' : List Atom} (h : Sat w0 w A) (hp : Pull A (row a cap E sz n cs) A') : Ro w a cs := ro_of_own (h.own hp)
def isA (P : Program) (t : TypeId) : Option Bool :=
  match P.underlying t with
  | some (.struct _) | some (.array ..) => some true
  | some _ => some false
  | none => none
def szT (P : Program) (t : TypeId) : Option Nat := (P.info? t).map (·.size)
def fo (P : Program) (s : TypeId) (f : Nat) : Option Nat :=
  match P.underlying s with
  | some (.struct fs) =>
    match fs[f]? with
    | some fd =>
      match P.info? fd.type with
      | some i => if i.size = 0 then none else some fd.offset
      | none => none
    | none => none
  | _ => none
def esz (P : Program) (t : TypeId) : Option Nat :=
  match P.underlying t with
  | some (.slice e) => (P.info? e).map (·.size)
  | _ => none
def asz (P : Program) (t : TypeId) : Option (Nat × Nat) :=
  match P.underlying t with
  | some (.array n e) => (P.info? e).map fun i => (n, i.size)
  | _ => none
def zc (P : Program) (t : TypeId) : Option (List Value) := ((P.info? t).bind (·.zero)).map fun v => v.cells.toList
section
variable {P : Program} {w : World}
theorem run_isAgg {t : TypeId} {b : Bool} (h : isA P t = some b) : (isAgg t).run P w = .ok b w := by
  unfold isA at h
  cases hu : P.underlying t with
  | none => rw [hu] at h; cases h
  | some d =>
    rw [hu] at h
    simp only [isAgg, Sem.run_bind, run_underlying hu, Result.andThen_ok]
    cases d <;> (cases h; rfl)
theorem run_sizeOf {t : TypeId} {n : Nat} (h : szT P t = some n) : (sizeOf t).run P w = .ok n w := by
  unfold szT at h
  cases hi : P.info? t with
  | none => rw [hi] at h; cases h
  | some i => rw [hi] at h; obtain rfl := Option.some.inj h; simp [sizeOf, typeInfo, hi]
theorem run_zeroValue {t : TypeId} {cs : List Value} (h : zc P t = some cs) : ∃ z : Value, z.cells.toList = cs ∧ (zeroValue t).run P w = .ok z w := by
  unfold zc at h
  cases hi : P.info? t with
  | none => rw [hi] at h; cases h
  | some i =>
    rw [hi] at h
    cases hz : i.zero with
    | none => simp [hz] at h
    | some z =>
      simp [hz] at h
      exact ⟨z, h, by simp [zeroValue, typeInfo, hi, hz]⟩
theorem run_load1 {t : TypeId} {b o : Nat} {v : Value} (ht : isA P t = some false) (hc : w.cell? ⟨b, o, none⟩ = some v) : (loadVar t ⟨b, o, none⟩).run P w = .ok v w := by
  simp only [loadVar, Sem.run_bind, run_isAgg ht, Result.andThen_ok, Bool.false_eq_true, if_false]
  simp [Sem.run, load, hc]
theorem add_at (b o k : Nat) : (⟨b, o, none⟩ : Addr).add k = ⟨b, o + k, none⟩ := by
  unfold Addr.add; split
  · subst_vars; rfl
  · rfl
theorem run_loadN {t : TypeId} {b o : Nat} {vs : List Value} (ht : isA P t = some true) (hz : szT P t = some vs.length) (hc : ∀ j u, vs[j]? = some u → w.cell? ⟨b, o + j, none⟩ = some u) : (loadVar t ⟨b, o, none⟩).run P w = .ok (.agg vs.toArray) w := by
  have h1 := run_loadCells_list (P := P) w ⟨b, o, none⟩ vs (fun j v hj => by rw [add_at]; exact hc j v hj)
  simp only [loadVar, Sem.run_bind, run_isAgg ht, Result.andThen_ok, if_true, run_sizeOf hz, h1, Sem.run_pure]
end
section
variable {P : Program} {r : Option Nat} {ops : Array Oper} {Q : Exit → Act → World → Prop} {w0 : World} {n : Nat} {D : List Deferred} {rest : List Oper} {L : Env} {A : List Atom}
variable {t : Nat} {ty : TypeId} {pos : String} {af : Array Edge} {g : Option (Nat × Bool)}
theorem q_mv {x : Operand} {v : Value} (hx : ev L x = some v) : Qv P w0 n D L A (.move x) (v) := fun a w hk _ _ _ _ _ _ => ⟨by simp only [execOp, hk.ev hx]; rfl, rfl⟩
theorem q_asg {x : Operand} {v : Value} (hx : ev L x = some v) : Qv P w0 n D L A (.assign x) (v) := fun a w hk _ _ _ _ _ _ => ⟨by simp only [execOp, hk.ev hx]; rfl, rfl⟩
theorem Ops.sk {op : Op} (h : Ops P r ops Q w0 n D rest ((t, undef) :: L) A)
    (hg : gd ops L ⟨some t, op, ty, pos, af, g⟩ = some false := by rfl) (ht : Nat.blt t n = true := by rfl) :
    Ops P r ops Q w0 n D (⟨some t, op, ty, pos, af, g⟩ :: rest) L A := Ops.skip hg rfl ht h
theorem q_pickT {c x y : Operand} {v : Value} (hc : ev L c = some (.bool true)) (hx : ev L x = some v) : Qv P w0 n D L A (.pick c x y) v := fun a w hk _ _ _ _ _ _ => ⟨by simp [execOp, hk.ev hx, hk.ev hc, asBool], rfl⟩
theorem q_pickF {c x y : Operand} {v : Value} (hc : ev L c = some (.bool false)) (hy : ev L y = some v) : Qv P w0 n D L A (.pick c x y) (v) := fun a w hk _ _ _ _ _ _ => ⟨by simp [execOp, hk.ev hy, hk.ev hc, asBool], rfl⟩
def cmpV : BinOp → Int → Int → Option Bool
  | .lss, i, j => some (decide (i < j))
  | .leq, i, j => some (decide (i ≤ j))
  | .gtr, i, j => some (decide (j < i))
  | .geq, i, j => some (decide (j ≤ i))
  | .eql, i, j => some (i == j)
  | .neq, i, j => some (i != j)
  | _, _, _ => none
theorem c_lt {i j : Int} (h : i < j) : cmpV .lss i j = some true := by simp [cmpV, h]
theorem c_nlt {i j : Int} (h : j ≤ i) : cmpV .lss i j = some false := by simp [cmpV]; omega
theorem c_le {i j : Int} (h : i ≤ j) : cmpV .leq i j = some true := by simp [cmpV, h]
theorem c_nle {i j : Int} (h : j < i) : cmpV .leq i j = some false := by simp [cmpV]; omega
theorem c_gt {i j : Int} (h : j < i) : cmpV .gtr i j = some true := by simp [cmpV, h]
theorem c_ngt {i j : Int} (h : i ≤ j) : cmpV .gtr i j = some false := by simp [cmpV]; omega
theorem c_ge {i j : Int} (h : j ≤ i) : cmpV .geq i j = some true := by simp [cmpV, h]
theorem c_nge {i j : Int} (h : i < j) : cmpV .geq i j = some false := by simp [cmpV]; omega
theorem c_eq {i j : Int} (h : i = j) : cmpV .eql i j = some true := by simp [cmpV, h]
theorem c_neq {i j : Int} (h : i ≠ j) : cmpV .eql i j = some false := by simp [cmpV, h]
theorem c_ne {i j : Int} (h : i ≠ j) : cmpV .neq i j = some true := by simp [cmpV, h]
theorem c_nne {i j : Int} (h : i = j) : cmpV .neq i j = some false := by simp [cmpV, h]
theorem q_cmp {op : BinOp} {tx tz : TypeId} {x y : Operand} {k : IntKind} {i j : Int} {b : Bool} (hx : ev L x = some (.int k i)) (hy : ev L y = some (.int k j)) (hb : cmpV op i j = some b) : Qv P w0 n D L A (.binOp op tx x y tz) (.bool b) := fun a w hk _ _ _ _ _ _ => ⟨by
    cases op <;> simp only [cmpV, Option.some.injEq, reduceCtorEq] at hb <;> subst hb <;> simp [execOp, hk.ev hx, hk.ev hy, eqGuard, binOp, Op.intCmp], rfl⟩
def arV : BinOp → IntKind → Int → Int → Option Int
  | .add, k, i, j => some (k.wrap (i + j))
  | .sub, k, i, j => some (k.wrap (i - j))
  | .mul, k, i, j => some (k.wrap (i * j))
  | .quo, k, i, j => if j = 0 then none else some (k.wrap (i.tdiv j))
  | .rem, _, i, j => if j = 0 then none else some (i.tmod j)
  | _, _, _, _ => none
theorem a_add {i j : Int} (h : -9223372036854775808 ≤ i + j ∧ i + j ≤ 9223372036854775807) : arV .add .i64 i j = some (i + j) := by simp only [arV, IntWalk.i64_in _ h]
theorem a_sub {i j : Int} (h : -9223372036854775808 ≤ i - j ∧ i - j ≤ 9223372036854775807) : arV .sub .i64 i j = some (i - j) := by simp only [arV, IntWalk.i64_in _ h]
theorem a_mul {i j : Int} (h : -9223372036854775808 ≤ i * j ∧ i * j ≤ 9223372036854775807) : arV .mul .i64 i j = some (i * j) := by simp only [arV, IntWalk.i64_in _ h]
theorem a_inc {k : Nat} (h : k < 9223372036854775807) : arV .add .i64 (k : Int) 1 = some ((k + 1 : Nat) : Int) := by
  rw [a_add (by omega)]; rfl
theorem a_rem {i j : Int} (hi : 0 ≤ i) (hj : j ≠ 0) : arV .rem .i64 i j = some (i % j) := by simp only [arV, if_neg hj, Int.tmod_eq_emod_of_nonneg hi]
theorem a_quo {i j : Int} (h : 0 ≤ i ∧ i ≤ 9223372036854775807 ∧ 1 ≤ j) : arV .quo .i64 i j = some (i / j) := by
  simp only [arV, if_neg (show j ≠ 0 by omega), IntWalk.i64_quo _ _ h]
theorem q_ar {op : BinOp} {tx tz : TypeId} {x y : Operand} {k : IntKind} {i j v : Int} (hx : ev L x = some (.int k i)) (hy : ev L y = some (.int k j)) (hv : arV op k i j = some v) : Qv P w0 n D L A (.binOp op tx x y tz) (.int k v) := fun a w hk _ _ _ _ _ _ => ⟨by
    cases op <;> simp only [arV, Option.some.injEq, reduceCtorEq] at hv
    case quo => split at hv <;> simp_all [execOp, hk.ev hx, hk.ev hy, eqGuard, binOp, Op.intDiv]
    case rem => split at hv <;> simp_all [execOp, hk.ev hx, hk.ev hy, eqGuard, binOp, Op.intDiv]
    all_goals subst hv; simp [execOp, hk.ev hx, hk.ev hy, eqGuard, binOp, Op.intArith], rfl⟩
theorem q_not {tx : TypeId} {x : Operand} {b : Bool} (hx : ev L x = some (.bool b)) : Qv P w0 n D L A (.unOp .not tx x) (.bool (!b)) := fun a w hk _ _ _ _ _ _ => ⟨by simp [execOp, hk.ev hx, Op.unary], rfl⟩
theorem q_neg {tx : TypeId} {x : Operand} {k : IntKind} {i v : Int} (hx : ev L x = some (.int k i)) (hv : arV .sub k 0 i = some v) : Qv P w0 n D L A (.unOp .neg tx x) (.int k v) := fun a w hk _ _ _ _ _ _ => ⟨by simp only [arV, Option.some.injEq] at hv; subst hv; simp [execOp, hk.ev hx, Op.unary, Op.intArith], rfl⟩
def iK (P : Program) (t : TypeId) : Option IntKind :=
  match P.underlying t with
  | some (.int k) => some k
  | _ => none
theorem iK_u {t : TypeId} {k : IntKind} (h : iK P t = some k) : P.underlying t = some (.int k) := by
  unfold iK at h
  cases hu : P.underlying t with
  | none => rw [hu] at h; cases h
  | some d => rw [hu] at h; cases d <;> cases h; rfl
theorem q_conv {s d : TypeId} {x : Operand} {k k1 k2 : IntKind} {i v : Int} (h1 : iK P s = some k1) (h2 : iK P d = some k2) (hx : ev L x = some (.int k i)) (hv : k2.wrap i = v) : Qv P w0 n D L A (.convert s d x) (.int k2 v) := fun a w hk _ _ _ _ _ _ => ⟨by subst hv; simp [execOp, hk.ev hx, convert, run_underlying (iK_u h1), run_underlying (iK_u h2), Conv.intToInt], rfl⟩
theorem q_ext {x : Operand} {i : Nat} {vs : Array Value} {v : Value} (hx : ev L x = some (.tuple vs)) (hv : vs[i]? = some v) : Qv P w0 n D L A (.extract x i) (v) := fun a w hk _ _ _ _ _ _ => ⟨by simp [execOp, hk.ev hx, Instr.extract, hv], rfl⟩
def evs (L : Env) : List Operand → Option (List Value)
  | [] => some []
  | x :: xs => match ev L x, evs L xs with
    | some v, some vs => some (v :: vs)
    | _, _ => none
theorem evs_ok {a : Act} (hk : Kn n D L a) : ∀ {xs : List Operand} {vs : List Value}, evs L xs = some vs → xs.map a.eval = vs
  | [], vs, h => by simp [evs] at h; simp [h]
  | x :: xs, vs, h => by
    simp only [evs] at h
    cases hx : ev L x with
    | none => rw [hx] at h; cases h
    | some v =>
      cases hxs : evs L xs with
      | none => rw [hx, hxs] at h; cases h
      | some us =>
        rw [hx, hxs] at h
        obtain rfl := Option.some.inj h
        simp [hk.ev hx, evs_ok hk hxs]
theorem q_mkf {fn : Fn} {xs ys : List Operand} {vs us : List Value} (hx : evs L xs = some vs) (hy : evs L ys = some us) : Qv P w0 n D L A (.makeFunc fn xs.toArray ys.toArray) (.func fn vs.toArray us.toArray) := fun a w hk _ _ _ _ _ _ => ⟨by simp [execOp, Instr.makeFunc, evs_ok hk hx, evs_ok hk hy], rfl⟩
theorem q_nck {x : Operand} {p : Addr} (hx : ev L x = some (.pointer (some p))) : Qv P w0 n D L A (.nilCheck x) (.pointer (some p)) := fun a w hk _ _ _ _ _ _ => ⟨by simp [execOp, hk.ev hx], rfl⟩
theorem run_fieldAt {w : World} {s : TypeId} {f off : Nat} (h : fo P s f = some off) (a : Addr) : (Instr.fieldAt s (.pointer (some a)) f).run P w = .ok (.pointer (some (a.add off))) w := by
  unfold fo at h
  cases hu : P.underlying s with
  | none => rw [hu] at h; cases h
  | some d =>
    rw [hu] at h
    cases d <;> try (cases h; done)
    rename_i fs
    simp only [] at h
    cases hf : fs[f]? with
    | none => rw [hf] at h; cases h
    | some fd =>
      rw [hf] at h
      simp only [] at h
      cases hi : P.info? fd.type with
      | none => rw [hi] at h; cases h
      | some i =>
        rw [hi] at h
        simp only [] at h
        split at h
        · cases h
        · rename_i hne
          obtain rfl := Option.some.inj h
          simp [Instr.fieldAt, run_underlying hu, hf, Instr.sureAddr, fieldPlace, sizeOf, typeInfo, hi, hne]
theorem q_fa {s : TypeId} {x : Operand} {f off b o : Nat} (hf : fo P s f = some off) (hx : ev L x = some (.pointer (some ⟨b, o, none⟩))) : Qv P w0 n D L A (.fieldAddr s x f) (.pointer (some ⟨b, o + off, none⟩)) := fun a w hk _ _ _ _ _ _ => ⟨by simp only [execOp, hk.ev hx, Sem.run_bind, run_fieldAt hf, add_at, Result.andThen_ok, Sem.run_pure], rfl⟩
theorem run_indexS {w : World} {s : TypeId} {z : Nat} (hz : esz P s = some z) (b o len cap : Nat) (kd : IntKind) (i : Int) (h0 : 0 ≤ i) (h1 : i < len) :
    (Instr.indexAt s (.slice (some ⟨b, o, none⟩) len cap) (.int kd i)).run P w = .ok (.pointer (some ⟨b, o + i.toNat * z, none⟩)) w := by
  unfold esz at hz
  cases hu : P.underlying s with
  | none => rw [hu] at hz; cases hz
  | some d =>
    rw [hu] at hz
    cases d <;> try (cases hz; done)
    rename_i e
    obtain ⟨i', hi, rfl⟩ := Option.map_eq_some_iff.1 hz
    simp [Instr.indexAt, asIntOf, run_underlying hu, h0, h1, sizeOf, typeInfo, hi, add_at]
theorem q_ix {s : TypeId} {x y : Operand} {z b o len cap k : Nat} {kd : IntKind} (hz : esz P s = some z) (hx : ev L x = some (.slice (some ⟨b, o, none⟩) len cap)) (hy : ev L y = some (.int kd (k : Int))) (hk : k < len)
    : Qv P w0 n D L A (.indexAddr s x y) (.pointer (some ⟨b, o + k * z, none⟩)) := fun a w hk' _ _ _ _ _ _ => ⟨by simp only [execOp, hk'.ev hx, hk'.ev hy, Sem.run_bind, run_indexS hz b o len cap kd k (by omega) (by omega), Result.andThen_ok, Sem.run_pure, Int.toNat_natCast], rfl⟩
theorem q_len {x : Operand} {s : TypeId} {a : Option Addr} {len cap z : Nat} (hz : esz P s = some z) (hx : ev L x = some (.slice a len cap)) : Qv P w0 n D L A (.call ⟨.builtin .len, #[x], #[s]⟩) (.int .i64 (len : Int)) := fun a w hk _ _ _ _ _ _ => ⟨by
    unfold esz at hz
    cases hu : P.underlying s with
    | none => rw [hu] at hz; cases hz
    | some d =>
      rw [hu] at hz
      cases d <;> try (cases hz; done)
      simp [execOp, resolve, invoke, builtin, hk.ev hx, Builtin.len_, run_underlying hu, goInt], rfl⟩
end
end Go.Proofs.YtilcdghliigngaaGl
namespace Go.Proofs.YtilcdghliigngaaGl
set_option linter.unusedVariables false
set_option linter.unusedSimpArgs false
open Go.RowKit
theorem Ro.at {w : World} {b o : Nat} {cs : List Value} (h : Ro w (some ⟨b, o, none⟩) cs) {j : Nat} {u : Value} (hu : cs[j]? = some u) : w.cell? ⟨b, o + j, none⟩ = some u := by
  obtain ⟨b', o', he, hc⟩ := h j u hu
  cases he; exact hc
theorem Ro.pos {w : World} {a : Option Addr} {cs : List Value} (h : Ro w a cs) (hne : 0 < cs.length) : ∃ b o, a = some ⟨b, o, none⟩ := by
  obtain ⟨b, o, he, _⟩ := h 0 _ (List.getElem?_eq_getElem hne)
  exact ⟨b, o, he⟩
theorem Sat.old {w0 w : World} {A : List Atom} (h : Sat w0 w A) {p : Addr} {v : Value} (hc : w0.cell? p = some v) : w.cell? p = some v :=
  (h.below.cell (World.block_lt_of_cell? w0 _ hc)).trans hc
section
variable {P : Program} {r : Option Nat} {ops : Array Oper} {Q : Exit → Act → World → Prop} {w0 : World} {n : Nat} {D : List Deferred} {rest : List Oper} {L : Env} {A : List Atom}
variable {t : Nat} {ty : TypeId} {pos : String} {af : Array Edge} {g : Option (Nat × Bool)}
theorem q_ld {s : TypeId} {x : Operand} {b o : Nat} {v : Value} (hs : isA P s = some false) (hx : ev L x = some (.pointer (some ⟨b, o, none⟩))) (hc : ∀ w, Sat w0 w A → w.cell? ⟨b, o, none⟩ = some v)
    : Qv P w0 n D L A (.load s x) (v) := fun a w hk hs' _ _ _ _ _ => ⟨by simp [execOp, hk.ev hx, Instr.loadAt, Instr.sureAddr, run_load1 hs (hc w hs')], rfl⟩
theorem q_ldN {s : TypeId} {x : Operand} {b o : Nat} {vs : List Value} (hs : isA P s = some true) (hz : szT P s = some vs.length) (hx : ev L x = some (.pointer (some ⟨b, o, none⟩)))
    (hc : ∀ w, Sat w0 w A → ∀ j u, vs[j]? = some u → w.cell? ⟨b, o + j, none⟩ = some u)
    : Qv P w0 n D L A (.load s x) (.agg vs.toArray) := fun a w hk hs' _ _ _ _ _ => ⟨by simp [execOp, hk.ev hx, Instr.loadAt, Instr.sureAddr, run_loadN hs hz (hc w hs')], rfl⟩
theorem Sat.atB {w0 w : World} {b : Nat} {T : TypeId} {cs : List Value} {A A' : List Atom} {o : Nat} {v : Value} (hp : Pull A (blk b T cs) A') (hv : cs[o]? = some v) : Sat w0 w A → w.cell? ⟨b, o, none⟩ = some v :=
  fun h => (cell_of_blk (h.ofBlk hp) o).trans hv
theorem q_ldB {s : TypeId} {x : Operand} {b o : Nat} {v : Value} {T : TypeId} {cs : List Value} {A' : List Atom} (hs : isA P s = some false) (hx : ev L x = some (.pointer (some ⟨b, o, none⟩))) (hp : Pull A (blk b T cs) A') (hv : cs[o]? = some v)
    : Qv P w0 n D L A (.load s x) (v) := q_ld hs hx (fun _ => Sat.atB hp hv)
theorem q_ldBN {s : TypeId} {x : Operand} {b o : Nat} (vs : List Value) {T : TypeId} {cs : List Value} {A' : List Atom} (hs : isA P s = some true) (hz : szT P s = some vs.length) (hx : ev L x = some (.pointer (some ⟨b, o, none⟩))) (hp : Pull A (blk b T cs) A')
    (hv : (cs.drop o).take vs.length = vs) : Qv P w0 n D L A (.load s x) (.agg vs.toArray) := q_ldN hs hz hx (fun w hs' j u hu => Sat.atB hp (by
      rw [← hv, List.getElem?_take] at hu
      split at hu
      · rwa [List.getElem?_drop] at hu
      · cases hu) hs')
theorem q_ldR {s : TypeId} {x : Operand} {b o : Nat} {v : Value} (hs : isA P s = some false) (hx : ev L x = some (.pointer (some ⟨b, o, none⟩))) (hc : w0.cell? ⟨b, o, none⟩ = some v)
    : Qv P w0 n D L A (.load s x) (v) := q_ld hs hx (fun _ hs' => hs'.old hc)
theorem q_ldRN {s : TypeId} {x : Operand} {b o : Nat} (vs : List Value) (hs : isA P s = some true) (hz : szT P s = some vs.length) (hx : ev L x = some (.pointer (some ⟨b, o, none⟩))) (hc : ∀ j u, vs[j]? = some u → w0.cell? ⟨b, o + j, none⟩ = some u)
    : Qv P w0 n D L A (.load s x) (.agg vs.toArray) := q_ldN hs hz hx (fun _ hs' j u hu => hs'.old (hc j u hu))
theorem Sat.atO {w0 w : World} {b cap : Nat} {E : TypeId} {sz m : Nat} {cs : List Value} {A A' : List Atom} {o : Nat} {v : Value} (hp : Pull A (row (some ⟨b, 0, none⟩) cap E sz m cs) A') (hv : cs[o]? = some v) : Sat w0 w A → w.cell? ⟨b, o, none⟩ = some v :=
  fun h => by have := Ro.at (h.ownRo hp) hv; rwa [Nat.zero_add] at this
theorem q_ldO {s : TypeId} {x : Operand} {b o cap : Nat} {v : Value} {E : TypeId} {sz m : Nat} {cs : List Value} {A' : List Atom} (hs : isA P s = some false) (hx : ev L x = some (.pointer (some ⟨b, o, none⟩))) (hp : Pull A (row (some ⟨b, 0, none⟩) cap E sz m cs) A') (hv : cs[o]? = some v)
    : Qv P w0 n D L A (.load s x) (v) := q_ld hs hx (fun _ => Sat.atO hp hv)
theorem q_ldON {s : TypeId} {x : Operand} {b o cap : Nat} (vs : List Value) {E : TypeId} {sz m : Nat} {cs : List Value} {A' : List Atom} (hs : isA P s = some true) (hz : szT P s = some vs.length) (hx : ev L x = some (.pointer (some ⟨b, o, none⟩))) (hp : Pull A (row (some ⟨b, 0, none⟩) cap E sz m cs) A')
    (hv : (cs.drop o).take vs.length = vs) : Qv P w0 n D L A (.load s x) (.agg vs.toArray) := q_ldN hs hz hx (fun w hs' j u hu => Sat.atO hp (by
      rw [← hv, List.getElem?_take] at hu
      split at hu
      · rwa [List.getElem?_drop] at hu
      · cases hu) hs')
theorem Ops.rowpos {a : Option Addr} {cap : Nat} {E : TypeId} {sz m : Nat} {cs : List Value} {A' : List Atom} (hp : Pull A (row a cap E sz m cs) A') (hm : 0 < m) (h : ∀ b, a = some ⟨b, 0, none⟩ → Ops P r ops Q w0 n D rest L A) : Ops P r ops Q w0 n D rest L A := by
  intro ac w hk hs
  rcases (hs.own hp).2 with ⟨_, h0⟩ | ⟨b, _, _, hv, _⟩
  · omega
  · cases hv; exact h b rfl ac w hk hs
theorem Cd.rowpos {c : Code} {a : Option Addr} {cap : Nat} {E : TypeId} {sz m : Nat} {cs : List Value} {A' : List Atom} (hp : Pull A (row a cap E sz m cs) A') (hm : 0 < m) (h : ∀ b, a = some ⟨b, 0, none⟩ → Cd P r c Q w0 n D L A) : Cd P r c Q w0 n D L A := by
  intro ac w hk hs
  rcases (hs.own hp).2 with ⟨_, h0⟩ | ⟨b, _, _, hv, _⟩
  · omega
  · cases hv; exact h b rfl ac w hk hs
theorem Sat.new {w : World} {A : List Atom} (h : Sat w0 w A) (T : TypeId) (cs : List Value) : Sat w0 (w.alloc (.cells cs.toArray T)) (blk w.heap.size T cs :: A) :=
  h.add (Below.alloc (Below.refl _ _) (Nat.le_refl _) _) (S := fun k => k = w.heap.size) ⟨heap_alloc_new w _, fun _ => Iff.rfl⟩ (fun _ hk => by omega)
theorem Ops.box {T : TypeId} {x : Operand} {v : Value} (cs : List Value) (hx : ev L x = some v) (hv : v.cells.toList = cs) (h : ∀ b, Ops P r ops Q w0 n D rest ((t, .pointer (some ⟨b, 0, none⟩)) :: L) (blk b T cs :: A))
    (hg : gd ops L ⟨some t, .box T x, ty, pos, af, g⟩ = some true := by rfl) (ht : Nat.blt t n = true := by rfl) :
    Ops P r ops Q w0 n D (⟨some t, .box T x, ty, pos, af, g⟩ :: rest) L A :=
  Ops.val (v := fun b => .pointer (some ⟨b, 0, none⟩)) (A' := fun b => blk b T cs :: A) hg rfl ht rfl (fun a w hk hs => by
    refine ⟨w.heap.size, _, ?_, hs.new T cs⟩
    subst hv
    simp [execOp, hk.ev hx, Instr.box, newVar, newRow, newObj, Sem.run]) h
theorem Ops.alc {T : TypeId} (cs : List Value) (hz : zc P T = some cs) (h : ∀ b, Ops P r ops Q w0 n D rest ((t, .pointer (some ⟨b, 0, none⟩)) :: L) (blk b T cs :: A))
    (hg : gd ops L ⟨some t, .alloc T, ty, pos, af, g⟩ = some true := by rfl) (ht : Nat.blt t n = true := by rfl) :
    Ops P r ops Q w0 n D (⟨some t, .alloc T, ty, pos, af, g⟩ :: rest) L A :=
  Ops.val (v := fun b => .pointer (some ⟨b, 0, none⟩)) (A' := fun b => blk b T cs :: A) hg rfl ht rfl (fun a w hk hs => by
    obtain ⟨z, hz1, hz2⟩ := run_zeroValue (w := w) hz
    refine ⟨w.heap.size, _, ?_, hs.new T cs⟩
    subst hz1
    simp [execOp, Instr.alloc, hz2, newVar, newRow, newObj, Sem.run]) h
def putL (cs : List Value) (o : Nat) : List Value → List Value
  | [] => cs
  | v :: vs => putL (cs.set o v) (o + 1) vs
def fillL (ps : Nat → Option (Nat × Nat)) (cs : List Value) : List (Nat × Value) → Option (List Value)
  | [] => some cs
  | (i, v) :: rest =>
    match ps i with
    | none => none
    | some (o, sz) => if v.cells.size = sz ∧ o + sz ≤ cs.length then fillL ps (putL cs o v.cells.toList) rest else none
theorem fold_put : ∀ (vs : List Value) (k : Nat) (cs : List Value) (o : Nat), (vs.zipIdx k).foldl (fun (cs : Array Value) (p : Value × Nat) => cs.setIfInBounds (o + p.2) p.1) cs.toArray = (putL cs (o + k) vs).toArray
  | [], k, cs, o => rfl
  | v :: vs, k, cs, o => by
    simp only [List.zipIdx_cons, List.foldl_cons, putL]
    rw [List.setIfInBounds_toArray, fold_put vs (k + 1) (cs.set (o + k) v) o]
    rfl
theorem fill_eq (ps : Nat → Option (Nat × Nat)) : ∀ (parts : List (Nat × Value)) (cs out : List Value), fillL ps cs parts = some out → Instr.fill ps cs.toArray parts = some out.toArray
  | [], cs, out, h => by simp only [fillL, Option.some.injEq] at h; subst h; rfl
  | (i, v) :: rest, cs, out, h => by
    simp only [fillL] at h
    cases hp : ps i with
    | none => rw [hp] at h; cases h
    | some q =>
      obtain ⟨o, sz⟩ := q
      rw [hp] at h
      simp only [] at h
      split at h
      · rename_i hc
        obtain ⟨h1, h2⟩ := hc
        simp only [Instr.fill, hp]
        rw [if_neg (by simp [h1]; omega)]
        have := fold_put v.cells.toList 0 cs o
        rw [← Array.foldl_toList, Array.toList_zipIdx]
        rw [this, Nat.add_zero]
        exact fill_eq ps rest _ out h
      · cases h
def pls (P : Program) (t : TypeId) : Option (List (Nat × Nat)) :=
  match P.underlying t with
  | some (.struct fs) => fs.toList.mapM fun f => (P.info? f.type).map fun i => (f.offset, i.size)
  | _ => none
def evp (L : Env) : List (Nat × Operand) → Option (List (Nat × Value))
  | [] => some []
  | (i, x) :: xs => match ev L x, evp L xs with
    | some v, some vs => some ((i, v) :: vs)
    | _, _ => none
theorem evp_ok {a : Act} (hk : Kn n D L a) : ∀ {xs : List (Nat × Operand)} {vs : List (Nat × Value)}, evp L xs = some vs → xs.map (fun p => (p.1, a.eval p.2)) = vs
  | [], vs, h => by simp [evp] at h; simp [h]
  | (i, x) :: xs, vs, h => by
    simp only [evp] at h
    cases hx : ev L x with
    | none => rw [hx] at h; cases h
    | some v =>
      cases hxs : evp L xs with
      | none => rw [hx, hxs] at h; cases h
      | some us =>
        rw [hx, hxs] at h
        obtain rfl := Option.some.inj h
        simp [hk.ev hx, evp_ok hk hxs]
theorem run_pls {w : World} : ∀ {fs : List Field} {ps : List (Nat × Nat)}, fs.mapM (fun f => (P.info? f.type).map fun i => (f.offset, i.size)) = some ps →
    (fs.mapM (m := Sem) fun f => do pure (f.offset, ← sizeOf f.type)).run P w = .ok ps w
  | [], ps, h => by simp at h; subst h; rfl
  | f :: fs, ps, h => by
    rw [List.mapM_cons] at h
    cases hi : P.info? f.type with
    | none => rw [hi] at h; cases h
    | some i =>
      rw [hi] at h
      cases hr : fs.mapM (fun f => (P.info? f.type).map fun i => (f.offset, i.size)) with
      | none => rw [hr] at h; cases h
      | some qs =>
        rw [hr] at h
        have h' : ps = (f.offset, i.size) :: qs := by simpa using h.symm
        subst h'
        rw [List.mapM_cons]
        simp only [Sem.run_bind, run_sizeOf (t := f.type) (show szT P f.type = some i.size by simp [szT, hi]), Result.andThen_ok, Sem.run_pure, run_pls hr]
theorem run_build {w : World} {T : TypeId} {zs cs : List Value} {ps : List (Nat × Nat)} {parts : List (Nat × Value)} (hp : pls P T = some ps) (hz : zc P T = some zs) (hf : fillL (ps[·]?) zs parts = some cs) :
    (Instr.build T parts.toArray).run P w = .ok (.agg cs.toArray) w := by
  unfold pls at hp
  cases hu : P.underlying T with
  | none => rw [hu] at hp; cases hp
  | some d =>
    rw [hu] at hp
    cases d <;> try (cases hp; done)
    rename_i fs
    obtain ⟨z, hz1, hz2⟩ := run_zeroValue (w := w) hz
    have h1 := run_pls (w := w) hp
    have h2 : (fs.mapM (m := Sem) fun f => do pure (f.offset, ← sizeOf f.type)).run P w = .ok ps.toArray w := by
      rw [Array.mapM_eq_mapM_toList, map_eq_pure_bind]
      simp only [Sem.run_bind, h1, Result.andThen_ok, Sem.run_pure]
    have h3 := fill_eq (ps[·]?) parts zs cs hf
    subst hz1
    simp only [Instr.build, Sem.run_bind, hz2, Result.andThen_ok, run_underlying hu, h2]
    have h4 : Instr.fill (fun i => ps.toArray[i]?) z.cells parts.toArray.toList = some cs.toArray := by simpa using h3
    simp only [h4, Sem.run_pure]
end
end Go.Proofs.YtilcdghliigngaaGl
namespace Go.Proofs.YtilcdghliigngaaGl
set_option linter.unusedVariables false
set_option linter.unusedSimpArgs false
open Go.RowKit
def elT (P : Program) (t : TypeId) : Option TypeId :=
  match P.underlying t with
  | some (.slice e) => some e
  | _ => none
theorem elT_u {P : Program} {t e : TypeId} (h : elT P t = some e) : P.underlying t = some (.slice e) := by
  unfold elT at h
  cases hu : P.underlying t with
  | none => rw [hu] at h; cases h
  | some d => rw [hu] at h; cases d <;> cases h; rfl
def zsb (P : Program) (t : TypeId) : Option (List Value × Nat × Nat) :=
  match P.info? t with
  | some i => match i.zero with
    | some z => if z.cells.size = i.size then some (z.cells.toList, i.size, i.bytes) else none
    | none => none
  | none => none
theorem zsb_u {P : Program} {t : TypeId} {zs : List Value} {sz by_ : Nat} (h : zsb P t = some (zs, sz, by_)) : ∃ i z, P.info? t = some i ∧ i.zero = some z ∧ i.size = sz ∧ i.bytes = by_ ∧ z.cells.size = sz ∧ z.cells.toList = zs := by
  unfold zsb at h
  cases hi : P.info? t with
  | none => rw [hi] at h; cases h
  | some i =>
    rw [hi] at h
    simp only [] at h
    cases hz : i.zero with
    | none => rw [hz] at h; cases h
    | some z =>
      rw [hz] at h
      simp only [] at h
      split at h
      · rename_i hs
        cases h
        exact ⟨i, z, rfl, hz, rfl, rfl, hs, rfl⟩
      · cases h
def rep (n : Nat) (z : List Value) : List Value := (List.replicate n z).flatten
theorem rep_length (n : Nat) (z : List Value) : (rep n z).length = n * z.length := by simp [rep]
theorem rep_eq (z : Array Value) (n : Nat) : ((Array.range (n * z.size)).map (fun i => z[i % z.size]!)).toList = rep n z.toList := by
  apply List.ext_getElem?
  intro i
  simp only [Array.toList_map, Array.toList_range, List.getElem?_map]
  by_cases hi : i < n * z.size
  · have hz : 0 < z.size := by
      rcases Nat.eq_zero_or_pos z.size with h | h
      · rw [h] at hi; omega
      · exact h
    have hm : i % z.size < z.size := Nat.mod_lt _ hz
    have key : ∀ (n i : Nat), i < n * z.size → (rep n z.toList)[i]? = some z[i % z.size]! := by
      intro n
      induction n with
      | zero => intro i h; omega
      | succ n ih =>
        intro i h
        have e : rep (n + 1) z.toList = z.toList ++ rep n z.toList := by simp [rep, List.replicate_succ]
        rw [e, List.getElem?_append]
        by_cases h1 : i < z.size
        · rw [if_pos (by simpa using h1), Nat.mod_eq_of_lt h1]
          simp [h1]
        · rw [if_neg (by simpa using h1)]
          simp only [Array.length_toList]
          rw [ih (i - z.size) (by rw [Nat.succ_mul] at h; omega)]
          congr 2
          rw [← Nat.mod_eq_sub_mod (by omega)]
    rw [key n i hi]
    simp [hi]
  · rw [List.getElem?_eq_none (by simp; omega), List.getElem?_eq_none (by rw [rep_length]; simpa using hi)]
    rfl
section
variable {P : Program} {r : Option Nat} {ops : Array Oper} {Q : Exit → Act → World → Prop} {w0 : World} {n : Nat} {D : List Deferred} {rest : List Oper} {L : Env} {A : List Atom}
variable {t : Nat} {ty : TypeId} {pos : String} {af : Array Edge} {g : Option (Nat × Bool)}
theorem q_bld {T : TypeId} {zs : List Value} (cs : List Value) {ps : List (Nat × Nat)} {xs : List (Nat × Operand)} {vs : List (Nat × Value)} (hp : pls P T = some ps) (hz : zc P T = some zs) (hx : evp L xs = some vs)
    (hf : fillL (ps[·]?) zs vs = some cs) : Qv P w0 n D L A (.build T xs.toArray) (.agg cs.toArray) := fun a w hk _ _ _ _ _ _ => ⟨by
    have e : (xs.toArray.map fun (i, x) => (i, a.eval x)) = vs.toArray := by
      rw [List.map_toArray, show xs.map (fun (i, x) => (i, a.eval x)) = vs from evp_ok hk hx]
    simp only [execOp, e, Sem.run_bind, run_build hp hz hf, Result.andThen_ok, Sem.run_pure], rfl⟩
theorem Sat.newRow {w : World} {A : List Atom} (h : Sat w0 w A) (E : TypeId) (sz m : Nat) (cs : List Value) (hl : cs.length = m * sz) (hm : m ≤ maxLen) :
    Sat w0 (w.alloc (.cells cs.toArray E)) (row (some ⟨w.heap.size, 0, none⟩) m E sz m cs :: A) :=
  h.add (Below.alloc (Below.refl _ _) (Nat.le_refl _) _) (S := fun k => k = w.heap.size)
    ⟨⟨hl, .inr ⟨w.heap.size, m, cs.toArray, rfl, Nat.zero_le _, heap_alloc_new w _, Nat.le_refl _, hm, by simpa using hl, by simp [← hl]⟩⟩, fun k => by simp [Value.ownBlock, eq_comm]⟩ (fun _ hk => by omega)
theorem Ops.lit {T E : TypeId} {zs : List Value} {sz by_ m : Nat} (cs : List Value) {xs : List (Nat × Operand)} {vs : List (Nat × Value)} (hT : elT P T = some E) (hE : zsb P E = some (zs, sz, by_)) (hx : evp L xs = some vs)
    (hf : fillL (fun i => some (i * sz, sz)) (rep m zs) vs = some cs) (hm : m * sz ≤ 65536 ∧ m ≤ 65536) (hl : cs.length = m * sz)
    (h : ∀ b, Ops P r ops Q w0 n D rest ((t, .slice (some ⟨b, 0, none⟩) m m) :: L) (row (some ⟨b, 0, none⟩) m E sz m cs :: A))
    (hg : gd ops L ⟨some t, .buildSlice T m xs.toArray, ty, pos, af, g⟩ = some true := by rfl) (ht : Nat.blt t n = true := by rfl) :
    Ops P r ops Q w0 n D (⟨some t, .buildSlice T m xs.toArray, ty, pos, af, g⟩ :: rest) L A :=
  Ops.val (v := fun b => .slice (some ⟨b, 0, none⟩) m m) (A' := fun b => row (some ⟨b, 0, none⟩) m E sz m cs :: A) hg rfl ht rfl (fun a w hk hs => by
    have e : (xs.toArray.map fun (i, x) => (i, a.eval x)) = vs.toArray := by
      rw [List.map_toArray, show xs.map (fun (i, x) => (i, a.eval x)) = vs from evp_ok hk hx]
    obtain ⟨i, z, hi, hz, hsz, hby, hzs, hzl⟩ := zsb_u hE
    refine ⟨w.heap.size, _, ?_, hs.newRow E sz m cs hl (by simp only [maxLen]; omega)⟩
    have hfill := fill_eq (fun i => some (i * sz, sz)) vs (rep m zs) cs hf
    have hsize : ∀ w, (sizeOf E).run P w = .ok sz w := fun w => run_sizeOf (by simp [szT, hi, hsz])
    have hzv : ∀ w, (zeroValue E).run P w = .ok z w := fun w => by simp [zeroValue, typeInfo, hi, hz]
    have hrun : (Instr.buildSlice T m vs.toArray).run P w = .ok (.slice (some ⟨w.heap.size, 0, none⟩) m m) (w.alloc (.cells cs.toArray E)) := by
      simp only [Instr.buildSlice, Sem.run_bind, run_underlying (elT_u hT), Result.andThen_ok, hsize]
      rw [if_neg (by omega)]
      by_cases h0 : m * sz = 0
      · have hr0 : rep m zs = [] := List.eq_nil_of_length_eq_zero (by rw [rep_length, ← hzl, Array.length_toList, hzs, h0])
        rw [hr0] at hfill
        rw [if_pos h0, h0]
        simp only [Sem.run_bind, Sem.run_pure, Result.andThen_ok]
        have e3 : (Array.range 0).map (fun x => (#[] : Array Value)[x % (#[] : Array Value).size]!) = ([] : List Value).toArray := by simp
        rw [e3, hfill]
        simp [newRow, newObj, Sem.run]
      · rw [if_neg h0]
        have hrep : ((Array.range (m * sz)).map (fun i => z.cells[i % z.cells.size]!)) = (rep m zs).toArray := by
          apply Array.toList_inj.1
          rw [← hzl, ← hzs, rep_eq]
        simp only [Sem.run_bind, hzv, Sem.run_pure, Result.andThen_ok, hrep, hfill]
        simp [newRow, newObj, Sem.run]
    simp only [execOp, e, Sem.run_bind, hrun, Result.andThen_ok, Sem.run_pure]) h
theorem run_stB {w : World} {s : TypeId} {b o : Nat} {T : TypeId} {cs vs : List Value} {v : Value} (hz : szT P s = some vs.length) (hv : v.cells.toList = vs) (h1 : ∀ u ∈ vs, u.oneCell' = true) (hb : w.heap[b]? = some (.cells cs.toArray T (0, 0))) (hl : o + vs.length ≤ cs.length) :
    (storeVar s ⟨b, o, none⟩ v).run P w = .ok () (w.setRow b (cs.take o ++ vs ++ cs.drop (o + vs.length)).toArray) := by
  have h := run_storeCells_at P b o T vs 0 cs.toArray w hb (by simpa using hl) h1
  simp only [Nat.add_zero] at h
  subst hv
  simp only [storeVar, Sem.run_bind, run_sizeOf hz, Result.andThen_ok]
  rw [if_neg (by simp)]
  exact h
theorem one {vs : List Value} (h : vs.all (fun v => v.oneCell') = true) : ∀ u ∈ vs, u.oneCell' = true := fun u hu => by simpa using List.all_eq_true.1 h u hu
theorem Ops.stB {s : TypeId} {x y : Operand} {b o : Nat} {T : TypeId} {cs : List Value} {v : Value} (vs cs' : List Value) {A' : List Atom} (hz : szT P s = some vs.length) (hx : ev L x = some (.pointer (some ⟨b, o, none⟩))) (hy : ev L y = some v) (hv : v.cells.toList = vs) (h1 : ∀ u ∈ vs, u.oneCell' = true)
    (hu : Upd A (blk b T cs) (blk b T cs') A') (hl : Nat.ble (o + vs.length) cs.length = true) (hc : cs.take o ++ vs ++ cs.drop (o + vs.length) = cs') (h : Ops P r ops Q w0 n D rest L A')
    (hg : gd ops L ⟨none, .store s x y, ty, pos, af, g⟩ = some true := by rfl) :
    Ops P r ops Q w0 n D (⟨none, .store s x y, ty, pos, af, g⟩ :: rest) L A :=
  Ops.act (α := Unit) (A' := fun _ => A') hg rfl rfl (fun a w hk hs => by
    obtain ⟨R, hp, hp'⟩ := hu.pull
    obtain ⟨S, hS, _, hgo⟩ := (hs.pull hp).step
    refine ⟨(), w.setRow b cs'.toArray, ?_, Sat.push ?_ hp'⟩
    · subst hc
      simp only [execOp, hk.ev hx, hk.ev hy, Instr.storeAt, Instr.sureAddr, Sem.run_bind, Sem.run_pure, Result.andThen_ok, run_stB hz hv h1 hS.1 (Nat.le_of_ble_eq_true hl)]
    · exact hgo (S' := fun k => k = b) ⟨setRow_heap w b _ _ T _ hS.1, fun _ => Iff.rfl⟩ (fun k hk => .inl ((hS.2 k).2 hk)) rfl rfl rfl (by simp) (fun k _ hk => setRow_other w b k _ (fun e => hk ((hS.2 k).2 e)))) (fun _ => h)
theorem Ops.stO {s : TypeId} {x y : Operand} {b o cap m sz : Nat} {E : TypeId} {cs : List Value} {v : Value} (vs cs' : List Value) {A' : List Atom} (hz : szT P s = some vs.length) (hx : ev L x = some (.pointer (some ⟨b, o, none⟩))) (hy : ev L y = some v) (hv : v.cells.toList = vs) (h1 : ∀ u ∈ vs, u.oneCell' = true)
    (hu : Upd A (row (some ⟨b, 0, none⟩) cap E sz m cs) (row (some ⟨b, 0, none⟩) cap E sz m cs') A') (hl : o + vs.length ≤ cs.length) (hc : cs.take o ++ vs ++ cs.drop (o + vs.length) = cs') (h : Ops P r ops Q w0 n D rest L A')
    (hg : gd ops L ⟨none, .store s x y, ty, pos, af, g⟩ = some true := by rfl) :
    Ops P r ops Q w0 n D (⟨none, .store s x y, ty, pos, af, g⟩ :: rest) L A :=
  Ops.act (α := Unit) (A' := fun _ => A') hg rfl rfl (fun a w hk hs => by
    obtain ⟨R, hp, hp'⟩ := hu.pull
    obtain ⟨S, hS, _, hgo⟩ := (hs.pull hp).step
    obtain ⟨⟨hlen, hown⟩, hSb⟩ := hS
    rcases hown with ⟨h0, _⟩ | ⟨b', cap', cur, hv0, _, hh, h2, h3, h4, h5⟩
    · cases h0
    · cases hv0
      have hcl : cs.length ≤ cur.size := by rw [← h5, List.length_take]; simp; omega
      have e : cur = (cs ++ cur.toList.drop (m * sz)).toArray := by
        apply Array.toList_inj.1
        simp only [← h5, List.take_append_drop]
      have hh' : w.heap[b]? = some (.cells (cs ++ cur.toList.drop (m * sz)).toArray E (0, 0)) := by rw [← e]; exact hh
      refine ⟨(), w.setRow b (cs' ++ cur.toList.drop (m * sz)).toArray, ?_, Sat.push ?_ hp'⟩
      · have hr := run_stB (P := P) hz hv h1 hh' (o := o) (by simp; omega)
        have e2 : (cs ++ cur.toList.drop (m * sz)).take o ++ vs ++ (cs ++ cur.toList.drop (m * sz)).drop (o + vs.length) = cs' ++ cur.toList.drop (m * sz) := by
          rw [← hc, List.take_append_of_le_length (by omega), List.drop_append_of_le_length (by omega)]
          simp
        rw [e2] at hr
        simp only [execOp, hk.ev hx, hk.ev hy, Instr.storeAt, Instr.sureAddr, Sem.run_bind, Sem.run_pure, Result.andThen_ok, hr]
      · have hcl' : cs'.length = cs.length := by rw [← hc]; simp; omega
        refine hgo (S' := fun k => k = b) ⟨⟨by rw [hcl', hlen], .inr ⟨b, cap, _, rfl, Nat.zero_le _, setRow_heap w b _ _ E _ hh, h2, h3, ?_, ?_⟩⟩, fun k => by simp [Value.ownBlock, eq_comm]⟩ (fun k hk => .inl ((hSb k).2 (by simp [Value.ownBlock, hk])))
          rfl rfl rfl (by simp) (fun k _ hk => setRow_other w b k _ (fun e => hk ((hSb k).2 (by simp [Value.ownBlock, e]))))
        · simp only [List.size_toArray, List.length_append, List.length_drop, Array.length_toList, hcl', hlen]
          rw [hlen] at hcl
          omega
        · simp only [List.toList_toArray]
          rw [← hlen, ← hcl']
          exact List.take_left) (fun _ => h)
theorem Sat.nilRow {w : World} {A : List Atom} (h : Sat w0 w A) (E : TypeId) (sz : Nat) : Sat w0 w (row none 0 E sz 0 [] :: A) :=
  h.add (Below.refl _ _) (S := fun _ => False) ⟨World.ownsRow_nil w 0 E sz, fun k => by simp [Value.ownBlock]⟩ (fun _ hk => hk.elim)
theorem Ops.nilRow (E : TypeId) (sz : Nat) (h : Ops P r ops Q w0 n D rest L (row none 0 E sz 0 [] :: A)) : Ops P r ops Q w0 n D rest L A := h.sat (fun _ hs => hs.nilRow E sz)
theorem Cd.nilRow {c : Code} (E : TypeId) (sz : Nat) (h : Cd P r c Q w0 n D L (row none 0 E sz 0 [] :: A)) : Cd P r c Q w0 n D L A := h.sat (fun _ hs => hs.nilRow E sz)
theorem Ops.app {x y : Operand} {T E : TypeId} {zs cs news : List Value} {sz by_ cap m k xc : Nat} {a xa : Option Addr} {A1 : List Atom} {A' : Option Addr → Nat → List Atom} (hT : elT P T = some E) (hE : zsb P E = some (zs, sz, by_)) (hs0 : 0 < sz)
    (hx : ev L x = some (.slice a m cap)) (hy : ev L y = some (.slice xa k xc)) (hn : ∀ w, Sat w0 w A → Ro w xa news) (hd : ∀ w, Sat w0 w A → Sat w0 w A1) (hu : ∀ a' c', Upd A1 (row a cap E sz m cs) (row a' c' E sz (m + k) (cs ++ news)) (A' a' c')) (hl : news.length = k * sz) (h1 : ∀ u ∈ news, u.oneCell' = true)
    (hb : (m + k) * by_ ≤ 140737488355328) (hb' : m + k ≤ 140737488355328)
    (h : ∀ a' cap', Ops P r ops Q w0 n D rest ((t, .slice a' (m + k) cap') :: L) (A' a' cap'))
    (hg : gd ops L ⟨some t, .call ⟨.builtin .append, #[x, y], #[T, T]⟩, ty, pos, af, g⟩ = some true := by rfl) (ht : Nat.blt t n = true := by rfl) :
    Ops P r ops Q w0 n D (⟨some t, .call ⟨.builtin .append, #[x, y], #[T, T]⟩, ty, pos, af, g⟩ :: rest) L A :=
  Ops.val (α := Option Addr × Nat) (v := fun p => .slice p.1 (m + k) p.2) (A' := fun p => A' p.1 p.2) hg rfl ht rfl (fun ac w hk hs => by
    obtain ⟨i, z, hi, hz, hsz, hby, hzs, hzl⟩ := zsb_u hE
    have hr0 := hn w hs
    have hs := hd w hs
    obtain ⟨R, hp, _⟩ := (hu a cap).pull
    obtain ⟨S, hS, _, hgo⟩ := (hs.pull hp).step
    have hown := hS.1
    rcases Nat.eq_zero_or_pos k with hk0 | hk0
    · subst hk0
      have hnn : news = [] := List.eq_nil_of_length_eq_zero (by simpa using hl)
      subst hnn
      refine ⟨(a, cap), w, ?_, ?_⟩
      · have hsize : ∀ w, (sizeOf E).run P w = .ok sz w := fun w => run_sizeOf (by simp [szT, hi, hsz])
        have hle : m ≤ cap := by
          rcases hown.2 with ⟨h0, h00⟩ | ⟨b', cap', cur, hv0, _, hh, h2, _⟩
          · omega
          · cases hv0; exact h2
        have hf : ∀ w, (Builtin.firstCells sz 0 (.slice xa 0 xc)).run P w = .ok #[] w := by
          intro w
          cases xa with
          | none => simp [Builtin.firstCells]
          | some p => simp [Builtin.firstCells, loadCells, loadCellsFrom]
        simp only [execOp, resolve, invoke, builtin, hk.ev hx, hk.ev hy, List.map_toArray, List.map_cons, List.map_nil, Sem.run_bind, Sem.run_pure, Result.andThen_ok]
        cases a with
        | none => simp [Builtin.append_, run_underlying (elT_u hT), hsize, Builtin.lenOf, hle, hf]
        | some p => simp [Builtin.append_, run_underlying (elT_u hT), hsize, Builtin.lenOf, hle, hf, storeCells]
      · obtain ⟨R', hp', hq'⟩ := (hu a cap).pull
        refine Sat.push ?_ hq'
        simp only [Nat.add_zero, List.append_nil]
        exact hs.pull hp'
    · obtain ⟨b, o, rfl⟩ := hr0.pos (by rw [hl]; exact Nat.mul_pos hk0 hs0)
      obtain ⟨v', w', hrun, hown', hgr, _, hat⟩ := run_append_own_at (P := P) w 0 T ty E i z sz by_ (elT_u hT) hi hz hsz hby hzs hs0 (.slice a m cap) m cs hown ⟨b, o, none⟩ k xc news hl
        (fun j u hu => by rw [add_at]; exact hr0.at hu) h1 (by simp only [maxLen]; omega) hb (Nat.zero_le _)
      obtain ⟨a', cap', rfl⟩ : ∃ a' cap', v' = .slice a' (m + k) cap' := by
        rcases hown'.2 with ⟨h0, h00⟩ | ⟨b', cap', cur, hv0, _⟩
        · omega
        · exact ⟨_, _, hv0⟩
      obtain ⟨R', hp', hq'⟩ := (hu a' cap').pull
      obtain ⟨S, hS, _, hgo⟩ := (hs.pull hp').step
      refine ⟨(a', cap'), w', ?_, Sat.push ?_ hq'⟩
      · simp only [execOp, resolve, invoke, builtin, hk.ev hx, hk.ev hy, List.map_toArray, List.map_cons, List.map_nil, Sem.run_bind, Sem.run_pure, Result.andThen_ok, hrun]
      · refine hgo (S' := fun q => (Value.slice a' (m + k) cap').ownBlock = some q) ⟨hown', fun _ => Iff.rfl⟩ (fun q hq => ?_) hgr.os hgr.tape hgr.output hgr.size (fun q hlt hq => hgr.block q hlt (fun e => hq ((hS.2 q).2 e.symm)))
        rcases hat with hat | hat
        · exact .inl ((hS.2 q).2 (hat ▸ hq))
        · rw [hat] at hq; cases hq; exact .inr (Nat.le_refl _)) (fun p => h p.1 p.2)
end
end Go.Proofs.YtilcdghliigngaaGl
namespace Go.Proofs.YtilcdghliigngaaGl
set_option linter.unusedVariables false
set_option linter.unusedSimpArgs false
open Go.RowKit
theorem Sats.append {w : World} {A : List Atom} {T : Nat → Prop} (h : Sats w A T) : ∀ {B : List Atom} {U : Nat → Prop}, Sats w B U → (∀ k, U k → ¬ T k) → Sats w (B ++ A) (fun k => U k ∨ T k)
  | [], U, hB, _ => Sats.iff h (fun k => ⟨.inr, fun h => h.elim (fun h => (hB k h).elim) id⟩)
  | b :: B, U, hB, hd => by
    obtain ⟨S, V, hb, hB', hd', ht⟩ := hB
    have ih := Sats.append h hB' (fun k hk => hd k ((ht k).2 (.inr hk)))
    refine ⟨S, _, hb, ih, ?_, ?_⟩
    · rintro k hk (hv | hv)
      · exact hd' k hk hv
      · exact hd k ((ht k).2 (.inl hk)) hv
    · intro k
      show U k ∨ T k ↔ S k ∨ V k ∨ T k
      rw [ht k]; exact or_assoc
theorem Sat.over {w0 w w' : World} {A B : List Atom} (h : Sat w0 w A) (hb : Sat w w' B) : Sat w0 w' (B ++ A) := by
  obtain ⟨hB, T, hs, ht⟩ := h
  obtain ⟨hB', U, hs', ht'⟩ := hb
  refine ⟨hB.trans (hB'.mono hB.size), _, (hs.loc (fun k hk => hB'.block k (hs.lt k hk))).append hs' (fun k hk hT => ?_), ?_⟩
  · have := ht' k hk; have := hs.lt k hT; omega
  · rintro k (hk | hk)
    · have := ht' k hk; have := hB.size; omega
    · exact ht k hk
theorem Sat.none {w0 w : World} {A : List Atom} (h : Sat w0 w A) : Sat w0 w [] := ⟨h.below, fun _ => False, fun _ h => h, fun _ h => h.elim⟩
theorem Sat.only {w0 w : World} {a : Atom} {A R : List Atom} (h : Sat w0 w A) (hp : Pull A a R) : Sat w0 w [a] := by
  obtain ⟨hB, T, ⟨S, U, ha, hA, hd, ht⟩, hT⟩ := h.pull hp
  exact ⟨hB, S, ⟨S, fun _ => False, ha, fun _ h => h, fun _ _ h => h, fun k => by simp⟩, fun k hk => hT k ((ht k).2 (.inl hk))⟩
abbrev Enters (P : Program) (f : FuncId) : Prop := ∀ args w, (callFunc f args).run P w = .ok (.enter f args) w
section
variable {P : Program} {r : Option Nat} {ops : Array Oper} {Q : Exit → Act → World → Prop} {w0 : World} {n : Nat} {D : List Deferred} {rest : List Oper} {L : Env} {A : List Atom}
variable {t : Nat} {ty : TypeId} {pos : String} {af : Array Edge} {g : Option (Nat × Bool)}
theorem run_callV {ρ : Operand → Value} {f : Operand} {xs : List Operand} {ats : Array TypeId} {k : FuncId} {first caps : Array Value} {vs : List Value} {w : World} (he : Enters P k) (hf : ρ f = .func (.func k) first caps) (hx : xs.map ρ = vs)
    {dst : Option Tmp} : (execOp ρ ⟨dst, .call ⟨.value f, xs.toArray, ats⟩, ty, pos, af, g⟩).run P w = .ok (.enter k (first ++ vs.toArray ++ caps)) w := by
  have e : xs.toArray.map ρ = vs.toArray := by rw [List.map_toArray, hx]
  simp only [execOp, resolve, e, hf, Deferred.ofValue, Sem.run_bind, Sem.run_pure, Result.andThen_ok, invoke, he]
theorem Ops.cl {α : Type} {k : FuncId} {xs : List Operand} {ats : Array TypeId} {vs : List Value} {v : α → Value} {B : α → List Atom} (he : Enters P k) (hx : evs L xs = some vs)
    (hc : ∀ w, Sat w0 w A → Calls P k vs.toArray w fun e w' => ∃ x, e = .returned (v x) ∧ Sat w w' (B x))
    (h : ∀ x, Ops P r ops Q w0 n D rest ((t, v x) :: L) (B x ++ A))
    (hg : gd ops L ⟨some t, .call ⟨.value (.func k), xs.toArray, ats⟩, ty, pos, af, g⟩ = some true := by rfl) (ht : Nat.blt t n = true := by rfl) :
    Ops P r ops Q w0 n D (⟨some t, .call ⟨.value (.func k), xs.toArray, ats⟩, ty, pos, af, g⟩ :: rest) L A :=
  Ops.call (v := v) (A' := fun x => B x ++ A) hg rfl ht rfl (fun a w hk _ => by
    have := run_callV (P := P) (ρ := a.eval) (f := .func k) (xs := xs) (ats := ats) (first := #[]) (caps := #[]) (w := w) (ty := ty) (pos := pos) (af := af) (g := g) (dst := some t) he rfl (evs_ok hk hx)
    simpa using this) (fun w hs => (hc w hs).mono fun e w' ⟨x, he, hs'⟩ => ⟨x, he, hs.over hs'⟩) h
theorem Ops.cp {k : FuncId} {xs : List Operand} {ats : Array TypeId} {vs : List Value} {v : Value} (he : Enters P k) (hx : evs L xs = some vs)
    (hc : ∀ w, Sat w0 w A → Calls P k vs.toArray w fun e w' => e = .returned v ∧ Sat w w' [])
    (h : Ops P r ops Q w0 n D rest ((t, v) :: L) A)
    (hg : gd ops L ⟨some t, .call ⟨.value (.func k), xs.toArray, ats⟩, ty, pos, af, g⟩ = some true := by rfl) (ht : Nat.blt t n = true := by rfl) :
    Ops P r ops Q w0 n D (⟨some t, .call ⟨.value (.func k), xs.toArray, ats⟩, ty, pos, af, g⟩ :: rest) L A :=
  Ops.cl (α := Unit) (v := fun _ => v) (B := fun _ => []) he hx (fun w hs => (hc w hs).mono fun e w' ⟨h1, h2⟩ => ⟨(), h1, h2⟩) (fun _ => h) hg ht
theorem Ops.cm {α : Type} {k : FuncId} {xs : List Operand} {ats : Array TypeId} {vs : List Value} {v : α → Value} {A' : α → List Atom} (he : Enters P k) (hx : evs L xs = some vs)
    (hc : ∀ w, Sat w0 w A → Calls P k vs.toArray w fun e w' => ∃ x, e = .returned (v x) ∧ Sat w0 w' (A' x))
    (h : ∀ x, Ops P r ops Q w0 n D rest ((t, v x) :: L) (A' x))
    (hg : gd ops L ⟨some t, .call ⟨.value (.func k), xs.toArray, ats⟩, ty, pos, af, g⟩ = some true := by rfl) (ht : Nat.blt t n = true := by rfl) :
    Ops P r ops Q w0 n D (⟨some t, .call ⟨.value (.func k), xs.toArray, ats⟩, ty, pos, af, g⟩ :: rest) L A :=
  Ops.call (v := v) (A' := A') hg rfl ht rfl (fun a w hk _ => by
    have := run_callV (P := P) (ρ := a.eval) (f := .func k) (xs := xs) (ats := ats) (first := #[]) (caps := #[]) (w := w) (ty := ty) (pos := pos) (af := af) (g := g) (dst := some t) he rfl (evs_ok hk hx)
    simpa using this) hc h
theorem Ops.cv {α : Type} {f : Operand} {k : FuncId} {first caps : List Value} {xs : List Operand} {ats : Array TypeId} {vs : List Value} {v : α → Value} {A' : α → List Atom} (he : Enters P k) (hf : ev L f = some (.func (.func k) first.toArray caps.toArray)) (hx : evs L xs = some vs)
    (hc : ∀ w, Sat w0 w A → Calls P k (first ++ vs ++ caps).toArray w fun e w' => ∃ x, e = .returned (v x) ∧ Sat w0 w' (A' x))
    (h : ∀ x, Ops P r ops Q w0 n D rest ((t, v x) :: L) (A' x))
    (hg : gd ops L ⟨some t, .call ⟨.value f, xs.toArray, ats⟩, ty, pos, af, g⟩ = some true := by rfl) (ht : Nat.blt t n = true := by rfl) :
    Ops P r ops Q w0 n D (⟨some t, .call ⟨.value f, xs.toArray, ats⟩, ty, pos, af, g⟩ :: rest) L A :=
  Ops.call (v := v) (A' := A') hg rfl ht rfl (fun a w hk _ => by
    have := run_callV (P := P) (ρ := a.eval) (f := f) (xs := xs) (ats := ats) (w := w) (ty := ty) (pos := pos) (af := af) (g := g) (dst := some t) he (hk.ev hf) (evs_ok hk hx)
    simpa using this) hc h
def Lof : Nat → List Value → Env
  | _, [] => []
  | k, v :: vs => (k, v) :: Lof (k + 1) vs
theorem lk_Lof : ∀ (vs : List Value) (k t : Nat) (v : Value), lk (Lof k vs) t = some v → k ≤ t ∧ vs[t - k]? = some v
  | [], k, t, v, h => by simp [Lof, lk] at h
  | u :: us, k, t, v, h => by
    simp only [Lof, lk_cons] at h
    by_cases e : k = t
    · rw [if_pos e] at h; subst e; simpa using h
    · rw [if_neg e] at h
      obtain ⟨h1, h2⟩ := lk_Lof us (k + 1) t v h
      refine ⟨by omega, ?_⟩
      rw [show t - k = (t - (k + 1)) + 1 by omega]
      simpa using h2
theorem fstart {f : FuncId} {fn : Func} {c : Code} {vs : List Value} {w : World} {R : Ending → World → Prop} (hf : P.funcs[f]? = some fn) (hb : fn.body = some c) (hn : fn.ntmps = n) (hs : Sat w0 w A)
    (h : Cd P none c (bodyPost P fn R) w0 n [] (Lof 0 vs) A) (hle : Nat.ble vs.length n = true := by rfl) : Calls P f vs.toArray w R := by
  have hle' : vs.length ≤ n := Nat.le_of_ble_eq_true hle
  refine callsIn_wide.1 (callsIn_of_wp (n := 0) hf hb trivial (h _ w ⟨?_, rfl, ?_⟩ hs) rfl)
  · subst hn; simp; omega
  · intro t v hl
    obtain ⟨_, h2⟩ := lk_Lof vs 0 t v hl
    have hlt : t < vs.length := (List.getElem?_eq_some_iff.1 (by simpa using h2)).1
    rw [Array.getElem?_append_left (by simpa using hlt)]
    simpa using h2
theorem fstartM {f : FuncId} {fn : Func} {c : Code} {vs : List Value} {w : World} {R : Ending → World → Prop} (hf : P.funcs[f]? = some fn) (hb : fn.body = some c) (hn : fn.ntmps = n) (hs : Sat w0 w A)
    (h : Cd P none c (bodyPostM (Fw none) 0 P fn R) w0 n [] (Lof 0 vs) A) (hle : Nat.ble vs.length n = true := by rfl) : Calls P f vs.toArray w R := by
  have hle' : vs.length ≤ n := Nat.le_of_ble_eq_true hle
  refine callsIn_wide.1 (callsIn_of_wp_marks (F := Fw none) (n := 0) hf hb trivial (h _ w ⟨?_, rfl, ?_⟩ hs) rfl)
  · subst hn; simp; omega
  · intro t v hl
    obtain ⟨_, h2⟩ := lk_Lof vs 0 t v hl
    have hlt : t < vs.length := (List.getElem?_eq_some_iff.1 (by simpa using h2)).1
    rw [Array.getElem?_append_left (by simpa using hlt)]
    simpa using h2
def Res (P : Program) (w0 : World) (L : Env) (A : List Atom) : ResultVar → Value → Prop
  | .tmp t, v => lk L t = some v
  | .cell a T, v => ∃ b o, lk L a = some (.pointer (some ⟨b, o, none⟩)) ∧ ∀ w, Sat w0 w A → (loadVar T ⟨b, o, none⟩).run P w = .ok v w
def Ress (P : Program) (w0 : World) (L : Env) (A : List Atom) : List ResultVar → List Value → Prop
  | [], [] => True
  | x :: xs, v :: vs => Res P w0 L A x v ∧ Ress P w0 L A xs vs
  | _, _ => False
def resF (tmps : Array Value) : ResultVar → Sem Value
  | .tmp t => pure (tmps.getD t undef)
  | .cell a t => do loadVar t (← asAddr (tmps.getD a undef))
def joinV : List Value → Value
  | [v] => v
  | vs => .tuple vs.toArray
theorem results_eq (fn : Func) (tmps : Array Value) : results fn tmps = (do let vs ← fn.results.mapM (resF tmps); pure (if h : vs.size = 1 then vs[0] else .tuple vs)) := by
  have : (fun (x : ResultVar) => (match x with | .tmp t => pure (tmps.getD t undef) | .cell a t => do loadVar t (← asAddr (tmps.getD a undef)) : Sem Value)) = resF tmps := by
    funext x; cases x <;> rfl
  rw [← this]
  rfl
theorem Res.run {a : Act} {w : World} (hk : Kn n D L a) (hs : Sat w0 w A) {x : ResultVar} {v : Value} (h : Res P w0 L A x v) : (resF a.tmps x).run P w = .ok v w := by
  cases x with
  | tmp t => have := hk.look t v h; simp [resF, Array.getD_eq_getD_getElem?, this]
  | cell c T =>
    obtain ⟨b, o, hl, hr⟩ := h
    have := hk.look c _ hl
    simp [resF, Array.getD_eq_getD_getElem?, this, asAddr, hr w hs]
theorem Ress.run {a : Act} {w : World} (hk : Kn n D L a) (hs : Sat w0 w A) : ∀ {xs : List ResultVar} {vs : List Value}, Ress P w0 L A xs vs → (xs.mapM (resF a.tmps)).run P w = .ok vs w
  | [], [], _ => by simp
  | x :: xs, v :: vs, h => by
    rw [List.mapM_cons]
    simp only [Sem.run_bind, Res.run hk hs h.1, Result.andThen_ok, Ress.run hk hs h.2, Sem.run_pure]
  | [], _ :: _, h => h.elim
  | _ :: _, [], h => h.elim
theorem run_results {fn : Func} {a : Act} {w : World} {xs : List ResultVar} {vs : List Value} (hk : Kn n D L a) (hs : Sat w0 w A) (hr : fn.results = xs.toArray) (h : Ress P w0 L A xs vs) :
    (results fn a.tmps).run P w = .ok (joinV vs) w := by
  have h1 := h.run hk hs
  have h2 : (fn.results.mapM (resF a.tmps)).run P w = .ok vs.toArray w := by
    rw [hr, Array.mapM_eq_mapM_toList, map_eq_pure_bind]
    simp only [Sem.run_bind, h1, Result.andThen_ok, Sem.run_pure]
  rw [results_eq]
  simp only [Sem.run_bind, h2, Result.andThen_ok, Sem.run_pure]
  match vs with
  | [] => rfl
  | [v] => rfl
  | _ :: _ :: _ => simp [joinV]
theorem endd {fn : Func} {R : Ending → World → Prop} {e : Exit} {xs : List ResultVar} {vs : List Value} {v : Value} (he : e = .ret ∨ e = .normal) (hr : fn.results = xs.toArray) (hv : Ress P w0 L A xs vs) (hm : joinV vs = v)
    (h : ∀ w, Sat w0 w A → R (.returned v) w) (a : Act) (w : World) (hk : Kn n [] L a) (hs : Sat w0 w A) : bodyPost P fn R e a w := by
  subst hm
  have := run_results (P := P) hk hs hr hv
  rcases he with rfl | rfl
  · exact ⟨hk.defers, _, this, h w hs⟩
  · exact ⟨hk.defers, _, this, h w hs⟩
theorem Cd.rt {fn : Func} {R : Ending → World → Prop} {xs : List ResultVar} (vs : List Value) (hq : Q .ret = bodyPost P fn R .ret) (hr : fn.results = xs.toArray) (hv : Ress P w0 L A xs vs)
    (h : ∀ w, Sat w0 w A → R (.returned (joinV vs)) w) : Cd P r .ret Q w0 n [] L A :=
  Cd.ret (fun a w hk hs => by rw [hq]; exact endd (.inl rfl) hr hv rfl h a w hk hs)
theorem Ops.fin {fn : Func} {R : Ending → World → Prop} (hq : Q .normal = bodyPost P fn R .normal) (hr : fn.results = #[])
    (h : ∀ w, Sat w0 w A → R (.returned (.tuple #[])) w) : Ops P r ops Q w0 n [] [] L A :=
  Ops.nil (fun a w hk hs => by rw [hq]; exact endd (xs := []) (vs := []) (.inr rfl) hr trivial rfl h a w hk hs)
theorem Cd.fin {fn : Func} {R : Ending → World → Prop} (hq : Q .normal = bodyPost P fn R .normal) (hr : fn.results = #[])
    (h : ∀ w, Sat w0 w A → R (.returned (.tuple #[])) w) : ∀ a w, Kn n [] L a → Sat w0 w A → Q .normal a w :=
  fun a w hk hs => by rw [hq]; exact endd (xs := []) (vs := []) (.inr rfl) hr trivial rfl h a w hk hs
end
end Go.Proofs.YtilcdghliigngaaGl
namespace Go.Proofs.Ytilcdghliigngaa
set_option linter.unusedVariables false
set_option linter.unusedSimpArgs false
open Go.Proofs.YtilcdghliigngaaGl
theorem isA_3 : isA Try.prog 3 = some false := by kernel_rfl
theorem sz_3 : szT Try.prog 3 = some 1 := by kernel_rfl
theorem iK_3 : iK Try.prog 3 = some .i64 := by kernel_rfl
theorem zsb_3 : zsb Try.prog 3 = some ([.int .i64 0], 1, 8) := by kernel_rfl
theorem isA_4 : isA Try.prog 4 = some false := by kernel_rfl
theorem sz_4 : szT Try.prog 4 = some 1 := by kernel_rfl
theorem zsb_4 : zsb Try.prog 4 = some ([.bool false], 1, 1) := by kernel_rfl
theorem iK_5 : iK Try.prog 5 = some .u8 := by kernel_rfl
theorem isA_22 : isA Try.prog 22 = some false := by kernel_rfl
theorem esz_22 : esz Try.prog 22 = some 1 := by kernel_rfl
theorem el_22 : elT Try.prog 22 = some 26 := by kernel_rfl
theorem isA_23 : isA Try.prog 23 = some false := by kernel_rfl
theorem esz_23 : esz Try.prog 23 = some 1 := by kernel_rfl
theorem el_23 : elT Try.prog 23 = some 4 := by kernel_rfl
theorem isA_26 : isA Try.prog 26 = some false := by kernel_rfl
theorem sz_26 : szT Try.prog 26 = some 1 := by kernel_rfl
theorem esz_26 : esz Try.prog 26 = some 1 := by kernel_rfl
theorem el_26 : elT Try.prog 26 = some 3 := by kernel_rfl
theorem zsb_26 : zsb Try.prog 26 = some ([.slice none 0 0], 1, 24) := by kernel_rfl
theorem zc_26 : zc Try.prog 26 = some [.slice none 0 0] := by kernel_rfl
theorem isA_27 : isA Try.prog 27 = some false := by kernel_rfl
theorem sz_27 : szT Try.prog 27 = some 1 := by kernel_rfl
theorem esz_27 : esz Try.prog 27 = some 2 := by kernel_rfl
theorem el_27 : elT Try.prog 27 = some 88 := by kernel_rfl
theorem zc_27 : zc Try.prog 27 = some [.slice none 0 0] := by kernel_rfl
theorem isA_29 : isA Try.prog 29 = some false := by kernel_rfl
theorem sz_29 : szT Try.prog 29 = some 1 := by kernel_rfl
theorem esz_29 : esz Try.prog 29 = some 8 := by kernel_rfl
theorem el_29 : elT Try.prog 29 = some 116 := by kernel_rfl
theorem isA_30 : isA Try.prog 30 = some false := by kernel_rfl
theorem sz_30 : szT Try.prog 30 = some 1 := by kernel_rfl
theorem esz_30 : esz Try.prog 30 = some 4 := by kernel_rfl
theorem el_30 : elT Try.prog 30 = some 126 := by kernel_rfl
theorem isA_32 : isA Try.prog 32 = some true := by kernel_rfl
theorem sz_32 : szT Try.prog 32 = some 3 := by kernel_rfl
theorem fo_32_0 : fo Try.prog 32 0 = some 0 := by kernel_rfl
theorem fo_32_1 : fo Try.prog 32 1 = some 1 := by kernel_rfl
theorem fo_32_2 : fo Try.prog 32 2 = some 2 := by kernel_rfl
theorem zc_32 : zc Try.prog 32 = some [.slice none 0 0, .int .i64 0, .slice none 0 0] := by kernel_rfl
theorem pls_32 : pls Try.prog 32 = some [(0, 1), (1, 1), (2, 1)] := by kernel_rfl
theorem isA_36 : isA Try.prog 36 = some true := by kernel_rfl
theorem sz_36 : szT Try.prog 36 = some 3 := by kernel_rfl
theorem fo_36_0 : fo Try.prog 36 0 = some 0 := by kernel_rfl
theorem fo_36_1 : fo Try.prog 36 1 = some 1 := by kernel_rfl
theorem fo_36_2 : fo Try.prog 36 2 = some 2 := by kernel_rfl
theorem zc_36 : zc Try.prog 36 = some [.slice none 0 0, .int .i64 0, .slice none 0 0] := by kernel_rfl
theorem pls_36 : pls Try.prog 36 = some [(0, 1), (1, 1), (2, 1)] := by kernel_rfl
theorem esz_52 : esz Try.prog 52 = some 2 := by kernel_rfl
theorem el_52 : elT Try.prog 52 = some 55 := by kernel_rfl
theorem isA_55 : isA Try.prog 55 = some true := by kernel_rfl
theorem sz_55 : szT Try.prog 55 = some 2 := by kernel_rfl
theorem fo_55_0 : fo Try.prog 55 0 = some 0 := by kernel_rfl
theorem fo_55_1 : fo Try.prog 55 1 = some 1 := by kernel_rfl
theorem zsb_55 : zsb Try.prog 55 = some ([.slice none 0 0, .int .i64 0], 2, 32) := by kernel_rfl
theorem zc_55 : zc Try.prog 55 = some [.slice none 0 0, .int .i64 0] := by kernel_rfl
theorem pls_55 : pls Try.prog 55 = some [(0, 1), (1, 1)] := by kernel_rfl
theorem esz_58 : esz Try.prog 58 = some 2 := by kernel_rfl
theorem el_58 : elT Try.prog 58 = some 61 := by kernel_rfl
theorem isA_61 : isA Try.prog 61 = some true := by kernel_rfl
theorem sz_61 : szT Try.prog 61 = some 2 := by kernel_rfl
theorem fo_61_0 : fo Try.prog 61 0 = some 0 := by kernel_rfl
theorem fo_61_1 : fo Try.prog 61 1 = some 1 := by kernel_rfl
theorem zsb_61 : zsb Try.prog 61 = some ([.slice none 0 0, .slice none 0 0], 2, 48) := by kernel_rfl
theorem zc_61 : zc Try.prog 61 = some [.slice none 0 0, .slice none 0 0] := by kernel_rfl
theorem pls_61 : pls Try.prog 61 = some [(0, 1), (1, 1)] := by kernel_rfl
theorem isA_67 : isA Try.prog 67 = some false := by kernel_rfl
theorem sz_67 : szT Try.prog 67 = some 1 := by kernel_rfl
theorem esz_67 : esz Try.prog 67 = some 3 := by kernel_rfl
theorem el_67 : elT Try.prog 67 = some 70 := by kernel_rfl
theorem zc_67 : zc Try.prog 67 = some [.slice none 0 0] := by kernel_rfl
theorem isA_70 : isA Try.prog 70 = some true := by kernel_rfl
theorem sz_70 : szT Try.prog 70 = some 3 := by kernel_rfl
theorem fo_70_0 : fo Try.prog 70 0 = some 0 := by kernel_rfl
theorem fo_70_1 : fo Try.prog 70 1 = some 1 := by kernel_rfl
theorem fo_70_2 : fo Try.prog 70 2 = some 2 := by kernel_rfl
theorem zsb_70 : zsb Try.prog 70 = some ([.int .i64 0, .int .i64 0, .int .i64 0], 3, 24) := by kernel_rfl
theorem zc_70 : zc Try.prog 70 = some [.int .i64 0, .int .i64 0, .int .i64 0] := by kernel_rfl
theorem pls_70 : pls Try.prog 70 = some [(0, 1), (1, 1), (2, 1)] := by kernel_rfl
theorem esz_73 : esz Try.prog 73 = some 2 := by kernel_rfl
theorem el_73 : elT Try.prog 73 = some 76 := by kernel_rfl
theorem isA_76 : isA Try.prog 76 = some true := by kernel_rfl
theorem sz_76 : szT Try.prog 76 = some 2 := by kernel_rfl
theorem fo_76_0 : fo Try.prog 76 0 = some 0 := by kernel_rfl
theorem fo_76_1 : fo Try.prog 76 1 = some 1 := by kernel_rfl
theorem zsb_76 : zsb Try.prog 76 = some ([.int .i64 0, .int .i64 0], 2, 16) := by kernel_rfl
theorem zc_76 : zc Try.prog 76 = some [.int .i64 0, .int .i64 0] := by kernel_rfl
theorem pls_76 : pls Try.prog 76 = some [(0, 1), (1, 1)] := by kernel_rfl
theorem isA_80 : isA Try.prog 80 = some false := by kernel_rfl
theorem esz_80 : esz Try.prog 80 = some 3 := by kernel_rfl
theorem el_80 : elT Try.prog 80 = some 82 := by kernel_rfl
theorem isA_82 : isA Try.prog 82 = some true := by kernel_rfl
theorem sz_82 : szT Try.prog 82 = some 3 := by kernel_rfl
theorem fo_82_0 : fo Try.prog 82 0 = some 0 := by kernel_rfl
theorem fo_82_1 : fo Try.prog 82 1 = some 1 := by kernel_rfl
theorem fo_82_2 : fo Try.prog 82 2 = some 2 := by kernel_rfl
theorem zsb_82 : zsb Try.prog 82 = some ([.int .i64 0, .int .i64 0, .int .i64 0], 3, 24) := by kernel_rfl
theorem zc_82 : zc Try.prog 82 = some [.int .i64 0, .int .i64 0, .int .i64 0] := by kernel_rfl
theorem pls_82 : pls Try.prog 82 = some [(0, 1), (1, 1), (2, 1)] := by kernel_rfl
theorem iK_83 : iK Try.prog 83 = some .u64 := by kernel_rfl
theorem isA_88 : isA Try.prog 88 = some true := by kernel_rfl
theorem sz_88 : szT Try.prog 88 = some 2 := by kernel_rfl
theorem fo_88_0 : fo Try.prog 88 0 = some 0 := by kernel_rfl
theorem fo_88_1 : fo Try.prog 88 1 = some 1 := by kernel_rfl
theorem zsb_88 : zsb Try.prog 88 = some ([.int .i64 0, .int .i64 0], 2, 16) := by kernel_rfl
theorem zc_88 : zc Try.prog 88 = some [.int .i64 0, .int .i64 0] := by kernel_rfl
theorem pls_88 : pls Try.prog 88 = some [(0, 1), (1, 1)] := by kernel_rfl
theorem iK_101 : iK Try.prog 101 = some .u16 := by kernel_rfl
theorem sz_114 : szT Try.prog 114 = some 3 := by kernel_rfl
theorem fo_114_0 : fo Try.prog 114 0 = some 0 := by kernel_rfl
theorem zc_114 : zc Try.prog 114 = some [.slice none 0 0, .int .i64 0, .slice none 0 0] := by kernel_rfl
theorem pls_114 : pls Try.prog 114 = some [(0, 3)] := by kernel_rfl
theorem isA_116 : isA Try.prog 116 = some true := by kernel_rfl
theorem sz_116 : szT Try.prog 116 = some 8 := by kernel_rfl
theorem fo_116_0 : fo Try.prog 116 0 = some 0 := by kernel_rfl
theorem fo_116_1 : fo Try.prog 116 1 = some 1 := by kernel_rfl
theorem fo_116_2 : fo Try.prog 116 2 = some 2 := by kernel_rfl
theorem fo_116_3 : fo Try.prog 116 3 = some 3 := by kernel_rfl
theorem fo_116_4 : fo Try.prog 116 4 = some 4 := by kernel_rfl
theorem fo_116_5 : fo Try.prog 116 5 = some 5 := by kernel_rfl
theorem fo_116_6 : fo Try.prog 116 6 = some 6 := by kernel_rfl
theorem fo_116_7 : fo Try.prog 116 7 = some 7 := by kernel_rfl
theorem zsb_116 : zsb Try.prog 116 = some ([.int .i64 0, .int .i64 0, .int .i64 0, .int .i64 0, .int .i64 0, .int .i64 0, .int .i64 0, .int .i64 0], 8, 64) := by kernel_rfl
theorem zc_116 : zc Try.prog 116 = some [.int .i64 0, .int .i64 0, .int .i64 0, .int .i64 0, .int .i64 0, .int .i64 0, .int .i64 0, .int .i64 0] := by kernel_rfl
theorem pls_116 : pls Try.prog 116 = some [(0, 1), (1, 1), (2, 1), (3, 1), (4, 1), (5, 1), (6, 1), (7, 1)] := by kernel_rfl
theorem isA_126 : isA Try.prog 126 = some true := by kernel_rfl
theorem sz_126 : szT Try.prog 126 = some 4 := by kernel_rfl
theorem fo_126_0 : fo Try.prog 126 0 = some 0 := by kernel_rfl
theorem fo_126_1 : fo Try.prog 126 1 = some 1 := by kernel_rfl
theorem fo_126_2 : fo Try.prog 126 2 = some 2 := by kernel_rfl
theorem fo_126_3 : fo Try.prog 126 3 = some 3 := by kernel_rfl
theorem zsb_126 : zsb Try.prog 126 = some ([.int .i64 0, .int .i64 0, .int .i64 0, .int .i64 0], 4, 32) := by kernel_rfl
theorem zc_126 : zc Try.prog 126 = some [.int .i64 0, .int .i64 0, .int .i64 0, .int .i64 0] := by kernel_rfl
theorem pls_126 : pls Try.prog 126 = some [(0, 1), (1, 1), (2, 1), (3, 1)] := by kernel_rfl
theorem isA_131 : isA Try.prog 131 = some false := by kernel_rfl
theorem asz_134 : asz Try.prog 134 = some (64, 1) := by kernel_rfl
theorem asz_135 : asz Try.prog 135 = some (64, 64) := by kernel_rfl
theorem isA_141 : isA Try.prog 141 = some false := by kernel_rfl
theorem fo_145_0 : fo Try.prog 145 0 = some 0 := by kernel_rfl
theorem zc_145 : zc Try.prog 145 = some [.slice none 0 0] := by kernel_rfl
theorem pls_145 : pls Try.prog 145 = some [(0, 1)] := by kernel_rfl
theorem isA_161 : isA Try.prog 161 = some false := by kernel_rfl
theorem isA_168 : isA Try.prog 168 = some false := by kernel_rfl
theorem isA_170 : isA Try.prog 170 = some true := by kernel_rfl
theorem sz_170 : szT Try.prog 170 = some 2 := by kernel_rfl
theorem fo_170_0 : fo Try.prog 170 0 = some 0 := by kernel_rfl
theorem fo_170_1 : fo Try.prog 170 1 = some 1 := by kernel_rfl
theorem zc_170 : zc Try.prog 170 = some [.int .i64 0, .nilFunc] := by kernel_rfl
theorem pls_170 : pls Try.prog 170 = some [(0, 1), (1, 1)] := by kernel_rfl
theorem isA_176 : isA Try.prog 176 = some false := by kernel_rfl
theorem isA_178 : isA Try.prog 178 = some false := by kernel_rfl
theorem esz_178 : esz Try.prog 178 = some 2 := by kernel_rfl
theorem el_178 : elT Try.prog 178 = some 184 := by kernel_rfl
theorem asz_180 : asz Try.prog 180 = some (16, 1) := by kernel_rfl
theorem fo_182_0 : fo Try.prog 182 0 = some 0 := by kernel_rfl
theorem fo_182_1 : fo Try.prog 182 1 = some 3 := by kernel_rfl
theorem fo_182_2 : fo Try.prog 182 2 = some 4 := by kernel_rfl
theorem fo_182_3 : fo Try.prog 182 3 = some 5 := by kernel_rfl
theorem fo_182_4 : fo Try.prog 182 4 = some 6 := by kernel_rfl
theorem zc_182 : zc Try.prog 182 = some [.slice none 0 0, .int .i64 0, .slice none 0 0, .map none, .int .i64 0, .slice none 0 0, .slice none 0 0, .slice none 0 0, .slice none 0 0, .slice none 0 0, .slice none 0 0, .slice none 0 0, .slice none 0 0, .slice none 0 0, .slice none 0 0, .slice none 0 0, .slice none 0 0, .slice none 0 0, .slice none 0 0, .slice none 0 0, .slice none 0 0, .slice none 0 0] := by kernel_rfl
theorem pls_182 : pls Try.prog 182 = some [(0, 3), (3, 1), (4, 1), (5, 1), (6, 16)] := by kernel_rfl
theorem isA_184 : isA Try.prog 184 = some true := by kernel_rfl
theorem sz_184 : szT Try.prog 184 = some 2 := by kernel_rfl
theorem fo_184_0 : fo Try.prog 184 0 = some 0 := by kernel_rfl
theorem fo_184_1 : fo Try.prog 184 1 = some 1 := by kernel_rfl
theorem zsb_184 : zsb Try.prog 184 = some ([.int .i64 0, .int .i64 0], 2, 16) := by kernel_rfl
theorem zc_184 : zc Try.prog 184 = some [.int .i64 0, .int .i64 0] := by kernel_rfl
theorem pls_184 : pls Try.prog 184 = some [(0, 1), (1, 1)] := by kernel_rfl
theorem fo_207_0 : fo Try.prog 207 0 = some 0 := by kernel_rfl
theorem fo_207_1 : fo Try.prog 207 1 = some 8 := by kernel_rfl
theorem fo_207_2 : fo Try.prog 207 2 = some 10 := by kernel_rfl
theorem zc_207 : zc Try.prog 207 = some [.int .i64 0, .int .i64 0, .int .i64 0, .int .i64 0, .int .i64 0, .int .i64 0, .int .i64 0, .int .i64 0, .int .i64 0, .int .i64 0, .nilFunc] := by kernel_rfl
theorem pls_207 : pls Try.prog 207 = some [(0, 8), (8, 2), (10, 1)] := by kernel_rfl
theorem isA_208 : isA Try.prog 208 = some false := by kernel_rfl
theorem en_13 : Enters Try.prog 13 := Go.Proofs.enters_of Try.func13 (by kernel_rfl) rfl
theorem en_14 : Enters Try.prog 14 := Go.Proofs.enters_of Try.func14 (by kernel_rfl) rfl
theorem en_18 : Enters Try.prog 18 := Go.Proofs.enters_of Try.func18 (by kernel_rfl) rfl
theorem en_20 : Enters Try.prog 20 := Go.Proofs.enters_of Try.func20 (by kernel_rfl) rfl
theorem en_21 : Enters Try.prog 21 := Go.Proofs.enters_of Try.func21 (by kernel_rfl) rfl
theorem en_23 : Enters Try.prog 23 := Go.Proofs.enters_of Try.func23 (by kernel_rfl) rfl
theorem en_24 : Enters Try.prog 24 := Go.Proofs.enters_of Try.func24 (by kernel_rfl) rfl
theorem en_26 : Enters Try.prog 26 := Go.Proofs.enters_of Try.func26 (by kernel_rfl) rfl
theorem en_28 : Enters Try.prog 28 := Go.Proofs.enters_of Try.func28 (by kernel_rfl) rfl
theorem en_30 : Enters Try.prog 30 := Go.Proofs.enters_of Try.func30 (by kernel_rfl) rfl
theorem en_32 : Enters Try.prog 32 := Go.Proofs.enters_of Try.func32 (by kernel_rfl) rfl
theorem en_34 : Enters Try.prog 34 := Go.Proofs.enters_of Try.func34 (by kernel_rfl) rfl
theorem en_35 : Enters Try.prog 35 := Go.Proofs.enters_of Try.func35 (by kernel_rfl) rfl
theorem en_36 : Enters Try.prog 36 := Go.Proofs.enters_of Try.func36 (by kernel_rfl) rfl
theorem en_37 : Enters Try.prog 37 := Go.Proofs.enters_of Try.func37 (by kernel_rfl) rfl
theorem en_38 : Enters Try.prog 38 := Go.Proofs.enters_of Try.func38 (by kernel_rfl) rfl
theorem en_39 : Enters Try.prog 39 := Go.Proofs.enters_of Try.func39 (by kernel_rfl) rfl
theorem en_43 : Enters Try.prog 43 := Go.Proofs.enters_of Try.func43 (by kernel_rfl) rfl
theorem en_44 : Enters Try.prog 44 := Go.Proofs.enters_of Try.func44 (by kernel_rfl) rfl
theorem en_46 : Enters Try.prog 46 := Go.Proofs.enters_of Try.func46 (by kernel_rfl) rfl
theorem en_47 : Enters Try.prog 47 := Go.Proofs.enters_of Try.func47 (by kernel_rfl) rfl
theorem en_48 : Enters Try.prog 48 := Go.Proofs.enters_of Try.func48 (by kernel_rfl) rfl
theorem en_49 : Enters Try.prog 49 := Go.Proofs.enters_of Try.func49 (by kernel_rfl) rfl
theorem en_50 : Enters Try.prog 50 := Go.Proofs.enters_of Try.func50 (by kernel_rfl) rfl
theorem en_51 : Enters Try.prog 51 := Go.Proofs.enters_of Try.func51 (by kernel_rfl) rfl
theorem en_52 : Enters Try.prog 52 := Go.Proofs.enters_of Try.func52 (by kernel_rfl) rfl
theorem en_57 : Enters Try.prog 57 := Go.Proofs.enters_of Try.func57 (by kernel_rfl) rfl
theorem en_58 : Enters Try.prog 58 := Go.Proofs.enters_of Try.func58 (by kernel_rfl) rfl
theorem en_60 : Enters Try.prog 60 := Go.Proofs.enters_of Try.func60 (by kernel_rfl) rfl
theorem en_61 : Enters Try.prog 61 := Go.Proofs.enters_of Try.func61 (by kernel_rfl) rfl
theorem en_64 : Enters Try.prog 64 := Go.Proofs.enters_of Try.func64 (by kernel_rfl) rfl
theorem en_65 : Enters Try.prog 65 := Go.Proofs.enters_of Try.func65 (by kernel_rfl) rfl
theorem en_68 : Enters Try.prog 68 := Go.Proofs.enters_of Try.func68 (by kernel_rfl) rfl
theorem en_70 : Enters Try.prog 70 := Go.Proofs.enters_of Try.func70 (by kernel_rfl) rfl
theorem en_71 : Enters Try.prog 71 := Go.Proofs.enters_of Try.func71 (by kernel_rfl) rfl
theorem en_72 : Enters Try.prog 72 := Go.Proofs.enters_of Try.func72 (by kernel_rfl) rfl
theorem en_73 : Enters Try.prog 73 := Go.Proofs.enters_of Try.func73 (by kernel_rfl) rfl
theorem en_74 : Enters Try.prog 74 := Go.Proofs.enters_of Try.func74 (by kernel_rfl) rfl
theorem en_75 : Enters Try.prog 75 := Go.Proofs.enters_of Try.func75 (by kernel_rfl) rfl
theorem en_76 : Enters Try.prog 76 := Go.Proofs.enters_of Try.func76 (by kernel_rfl) rfl
theorem en_77 : Enters Try.prog 77 := Go.Proofs.enters_of Try.func77 (by kernel_rfl) rfl
theorem en_78 : Enters Try.prog 78 := Go.Proofs.enters_of Try.func78 (by kernel_rfl) rfl
theorem en_79 : Enters Try.prog 79 := Go.Proofs.enters_of Try.func79 (by kernel_rfl) rfl
theorem en_80 : Enters Try.prog 80 := Go.Proofs.enters_of Try.func80 (by kernel_rfl) rfl
theorem en_83 : Enters Try.prog 83 := Go.Proofs.enters_of Try.func83 (by kernel_rfl) rfl
theorem en_84 : Enters Try.prog 84 := Go.Proofs.enters_of Try.func84 (by kernel_rfl) rfl
theorem en_85 : Enters Try.prog 85 := Go.Proofs.enters_of Try.func85 (by kernel_rfl) rfl
theorem en_86 : Enters Try.prog 86 := Go.Proofs.enters_of Try.func86 (by kernel_rfl) rfl
theorem en_87 : Enters Try.prog 87 := Go.Proofs.enters_of Try.func87 (by kernel_rfl) rfl
theorem en_90 : Enters Try.prog 90 := Go.Proofs.enters_of Try.func90 (by kernel_rfl) rfl
theorem en_91 : Enters Try.prog 91 := Go.Proofs.enters_of Try.func91 (by kernel_rfl) rfl
theorem en_92 : Enters Try.prog 92 := Go.Proofs.enters_of Try.func92 (by kernel_rfl) rfl
theorem en_93 : Enters Try.prog 93 := Go.Proofs.enters_of Try.func93 (by kernel_rfl) rfl
theorem en_94 : Enters Try.prog 94 := Go.Proofs.enters_of Try.func94 (by kernel_rfl) rfl
theorem en_95 : Enters Try.prog 95 := Go.Proofs.enters_of Try.func95 (by kernel_rfl) rfl
theorem en_96 : Enters Try.prog 96 := Go.Proofs.enters_of Try.func96 (by kernel_rfl) rfl
theorem en_97 : Enters Try.prog 97 := Go.Proofs.enters_of Try.func97 (by kernel_rfl) rfl
theorem en_98 : Enters Try.prog 98 := Go.Proofs.enters_of Try.func98 (by kernel_rfl) rfl
theorem en_99 : Enters Try.prog 99 := Go.Proofs.enters_of Try.func99 (by kernel_rfl) rfl
theorem en_100 : Enters Try.prog 100 := Go.Proofs.enters_of Try.func100 (by kernel_rfl) rfl
theorem en_101 : Enters Try.prog 101 := Go.Proofs.enters_of Try.func101 (by kernel_rfl) rfl
theorem en_102 : Enters Try.prog 102 := Go.Proofs.enters_of Try.func102 (by kernel_rfl) rfl
theorem en_103 : Enters Try.prog 103 := Go.Proofs.enters_of Try.func103 (by kernel_rfl) rfl
theorem en_106 : Enters Try.prog 106 := Go.Proofs.enters_of Try.func106 (by kernel_rfl) rfl
theorem en_107 : Enters Try.prog 107 := Go.Proofs.enters_of Try.func107 (by kernel_rfl) rfl
theorem en_109 : Enters Try.prog 109 := Go.Proofs.enters_of Try.func109 (by kernel_rfl) rfl
theorem en_111 : Enters Try.prog 111 := Go.Proofs.enters_of Try.func111 (by kernel_rfl) rfl
theorem en_112 : Enters Try.prog 112 := Go.Proofs.enters_of Try.func112 (by kernel_rfl) rfl
theorem en_113 : Enters Try.prog 113 := Go.Proofs.enters_of Try.func113 (by kernel_rfl) rfl
theorem en_114 : Enters Try.prog 114 := Go.Proofs.enters_of Try.func114 (by kernel_rfl) rfl
theorem en_115 : Enters Try.prog 115 := Go.Proofs.enters_of Try.func115 (by kernel_rfl) rfl
theorem en_116 : Enters Try.prog 116 := Go.Proofs.enters_of Try.func116 (by kernel_rfl) rfl
theorem en_117 : Enters Try.prog 117 := Go.Proofs.enters_of Try.func117 (by kernel_rfl) rfl
theorem en_118 : Enters Try.prog 118 := Go.Proofs.enters_of Try.func118 (by kernel_rfl) rfl
theorem en_120 : Enters Try.prog 120 := Go.Proofs.enters_of Try.func120 (by kernel_rfl) rfl
theorem en_121 : Enters Try.prog 121 := Go.Proofs.enters_of Try.func121 (by kernel_rfl) rfl
end Go.Proofs.Ytilcdghliigngaa
namespace Go.Proofs.YtilcdghliigngaaGl
set_option linter.unusedVariables false
set_option linter.unusedSimpArgs false
open Go.RowKit
def NQ (K : Act → World → Prop) : Exit → Act → World → Prop
  | .normal, a, w => K a w
  | _, _, _ => False
section
variable {P : Program} {r : Option Nat} {ops : Array Oper}
theorem oper_anyQ {F : Fence} {n : Nat} {o : Oper} {a : Act} {w : World} {K K' : Act → World → Prop} {Q' : Exit → Act → World → Prop} (hK : ∀ a w, K a w → K' a w) (h : o.wpIn F n P a w K (fun _ _ _ => False)) : o.wpIn F n P a w K' Q' := by
  unfold Oper.wpIn at *
  refine ⟨h.1, ?_⟩
  have hh := h.2
  generalize (o.semAt F.round a.eval).run P w = x at *
  cases x with
  | ok y w' =>
    cases y <;> simp only [Oper.uponIn] at hh ⊢
    case value v => exact hK _ _ hh
    case skip => exact hK _ _ hh
    case defer d => exact hK _ _ hh
    case enter f args => exact ⟨hh.1, CallsIn.mono hh.2 (fun e w'' he => by cases e <;> first | exact hK _ _ he | exact he.elim | exact he.elim (fun _ h => h.elim (fun _ h => h.elim)))⟩
    case row rw args => exact ⟨hh.1, RowsIn.mono hh.2 (fun _ _ he => hK _ _ he)⟩
    case round l f tmps asg bd => exact ⟨hh.1, RoundIn.mono hh.2 (fun e w'' he => by cases e <;> first | exact hK _ _ he | exact he.elim | exact he.elim (fun _ h => h.elim (fun _ h => h.elim)))⟩
  | halt y w' => cases y <;> simp only [Oper.uponIn] at hh ⊢
def opK (P : Program) (r : Option Nat) (ops : Array Oper) (i : Nat) (K : Act → World → Prop) (a : Act) (w : World) : Prop := wpOpIn (Fw r) 0 P ops (fun _ _ _ => False) i K a w
theorem opK_mono {i : Nat} {a : Act} {w : World} {K K' : Act → World → Prop} (h : ∀ a w, K a w → K' a w) (hh : opK P r ops i K a w) : opK P r ops i K' a w := wpOpIn_mono h hh
theorem opK_anyQ {i : Nat} {a : Act} {w : World} {K K' : Act → World → Prop} {Q' : Exit → Act → World → Prop} (h : ∀ a w, K a w → K' a w) (hh : opK P r ops i K a w) : wpOpIn (Fw r) 0 P ops Q' i K' a w := by
  unfold opK wpOpIn at *
  split
  · rename_i ho; simp only [ho] at hh; exact h _ _ hh
  · rename_i o ho
    simp only [ho] at hh
    split
    · rename_i hw; simp only [hw, if_true] at hh; exact oper_anyQ h hh
    · rename_i hw; simp only [hw] at hh; exact ⟨hh.1, h _ _ hh.2⟩
def YS (P : Program) (ops : Array Oper) (St : World → Prop) (o : Oper) (v : Value) (a : Act) : Prop :=
  (Region.wanted o (yielded ops a.tmps) = true ∧ ∀ w, St w → (execOp a.eval o).run P w = .ok (.value v) w) ∨ (Region.wanted o (yielded ops a.tmps) = false ∧ v = undef)
theorem YS.of_same {St : World → Prop} {o : Oper} {v : Value} {a a' : Act} (hy : YS P ops St o v a) (he : execOp a'.eval o = execOp a.eval o) (hw : Region.wanted o (yielded ops a'.tmps) = Region.wanted o (yielded ops a.tmps)) : YS P ops St o v a' := by
  unfold YS at *; rw [he, hw]; exact hy
theorem YS.opK {St : World → Prop} {i : Nat} {o : Oper} {v : Value} {a : Act} {w : World} {K : Act → World → Prop} (hi : ops[i]? = some o) (hnd : noDefer o.op = true) (hy : YS P ops St o v a) (hs : St w) (h : K (a.put o.dst v) w) : opK P r ops i K a w := by
  unfold YtilcdghliigngaaGl.opK wpOpIn
  simp only [hi]
  rcases hy with ⟨hw, hv⟩ | ⟨hw, rfl⟩
  · simp only [hw, if_true, Oper.wpIn]
    refine ⟨fun _ _ => trivial, ?_⟩
    rw [semAt_noDefer _ _ hnd, hv w hs]
    exact h
  · simp only [hw]
    exact ⟨fun _ _ => trivial, h⟩
theorem opK_put {St : World → Prop} {j : Nat} {oi oj : Oper} {v : Value} (hj : ops[j]? = some oj) (hap : oi.apart ops oj = true) (hndj : noDefer oj.op = true)
    (hsi : ∀ cs b, oi.op ≠ .select cs b) (hsj : ∀ cs b, oj.op ≠ .select cs b) {K : Act → World → Prop} {a : Act} {w : World}
    (hy : YS P ops St oi v a) (h : opK P r ops j K (a.put oi.dst v) w) : opK P r ops j (fun a' w' => YS P ops St oi v a' ∧ K (a'.put oi.dst v) w') a w := by
  obtain ⟨h1, h2, h3⟩ := Oper.apart_spec hap
  have keep : ∀ (a : Act), YS P ops St oi v a → ∀ u, YS P ops St oi v (a.put oj.dst u) := fun a hy u =>
    hy.of_same (execOp_put oi hsi a oj.dst u h3) (wanted_put oi a oj.dst u h3)
  have keepD : ∀ d, YS P ops St oi v { a with defers := d :: a.defers } := fun d => hy.of_same rfl rfl
  unfold opK wpOpIn at *
  simp only [hj] at *
  rw [wanted_put oj a oi.dst v h1] at h
  split
  · rename_i hw
    simp only [hw, if_true] at h
    unfold Oper.wpIn at *
    refine ⟨fun _ _ => trivial, ?_⟩
    have h := h.2
    rw [semAt_noDefer _ _ hndj, execOp_put oj hsj a oi.dst v h1] at h
    rw [semAt_noDefer _ _ hndj]
    generalize (execOp a.eval oj).run P w = x at *
    cases x with
    | ok y w' =>
      cases y <;> simp only [Oper.uponIn] at h ⊢
      case value u => exact ⟨keep a hy u, by rw [← Act.put_comm a v u h2]; exact h⟩
      case skip => exact ⟨keep a hy _, by rw [← Act.put_comm a v undef h2]; exact h⟩
      case defer d =>
        refine ⟨keep _ (keepD d) _, ?_⟩
        rw [← Act.put_comm _ v undef h2, ← Act.put_defers]
        exact h
      case enter f args =>
        refine ⟨h.1, CallsIn.mono h.2 fun e w'' he => ?_⟩
        cases e with
        | returned u => exact ⟨keep a hy u, by rw [← Act.put_comm a v u h2]; exact he⟩
        | panicked c => exact he
        | outgrown => exact he
      case row rw args => exact ⟨h.1, RowsIn.mono h.2 fun u w'' he => ⟨keep a hy u, by rw [← Act.put_comm a v u h2]; exact he⟩⟩
      case round l f tmps assign body =>
        refine ⟨h.1, RoundIn.mono h.2 fun e w'' he => ?_⟩
        cases e with
        | returned u => exact ⟨keep a hy u, by rw [← Act.put_comm a v u h2]; exact he⟩
        | panicked c => exact he
        | outgrown => exact he
    | halt y w' => cases y <;> simp only [Oper.uponIn] at h ⊢
  · rename_i hw
    simp only [hw] at h
    exact ⟨fun _ _ => trivial, keep a hy _, by rw [← Act.put_comm a v undef h2]; exact h.2⟩
def tailB (ops : Array Oper) (listed : Array Bool) : Bool :=
  (Region.ready .any ops listed).all fun j => (List.range ops.size).all fun i => !listed.getD i false ||
    match ops[j]? with
    | some o => o.after.any fun e => Region.binds .any e && e.on == i
    | none => false
def wpK (P : Program) (r : Option Nat) (ops : Array Oper) (St : World → Prop) (K : Act → World → Prop) : Nat → Array Bool → Act → World → Prop
  | 0, listed, a, w => Region.ready .any ops listed = [] ∧ K a w
  | f + 1, listed, a, w =>
    ((Region.ready .any ops listed = [] → K a w) ∧ ∀ i ∈ Region.ready .any ops listed, opK P r ops i (fun a' w' => St w' ∧ wpK P r ops St K f (listed.setIfInBounds i true) a' w') a w) ∨
    (tailB ops listed = true ∧ wpAnyIn (Fw r) 0 P .any ops (NQ K) (f + 1) listed a w)
theorem oper_Q {F : Fence} {n : Nat} {i : Nat} {a : Act} {w : World} {K K' : Act → World → Prop} {J : Act → World → Prop} {Q' : Exit → Act → World → Prop} (hK : ∀ a w, K a w → K' a w) (hh : wpOpIn F n P ops (NQ J) i K a w) : wpOpIn F n P ops Q' i K' a w := by
  unfold wpOpIn at *
  split
  · rename_i ho; simp only [ho] at hh; exact hK _ _ hh
  · rename_i o ho
    simp only [ho] at hh
    split
    · rename_i hw
      simp only [hw, if_true] at hh
      unfold Oper.wpIn at *
      refine ⟨hh.1, ?_⟩
      have hh := hh.2
      generalize (o.semAt F.round a.eval).run P w = x at *
      cases x with
      | ok y w' =>
        cases y <;> simp only [Oper.uponIn] at hh ⊢
        case value v => exact hK _ _ hh
        case skip => exact hK _ _ hh
        case defer d => exact hK _ _ hh
        case enter f args => exact ⟨hh.1, CallsIn.mono hh.2 (fun e w'' he => by cases e <;> first | exact hK _ _ he | exact he.elim | exact he.elim (fun _ h => h.elim (fun _ h => h.elim)))⟩
        case row rw args => exact ⟨hh.1, RowsIn.mono hh.2 (fun _ _ he => hK _ _ he)⟩
        case round l f tmps asg bd => exact ⟨hh.1, RoundIn.mono hh.2 (fun e w'' he => by cases e <;> first | exact hK _ _ he | exact he.elim | exact he.elim (fun _ h => h.elim (fun _ h => h.elim)))⟩
      | halt y w' => cases y <;> simp only [Oper.uponIn] at hh ⊢ <;> exact hh.elim
    · rename_i hw; simp only [hw] at hh; exact ⟨hh.1, hK _ _ hh.2⟩
theorem any_Q {K : Act → World → Prop} {Q' : Exit → Act → World → Prop} (hK : ∀ a w, K a w → Q' .normal a w) : ∀ (f : Nat) (listed : Array Bool) (a : Act) (w : World), wpAnyIn (Fw r) 0 P .any ops (NQ K) f listed a w → wpAnyIn (Fw r) 0 P .any ops Q' f listed a w
  | 0, _, _, _, h => ⟨h.1, hK _ _ h.2⟩
  | f + 1, _, _, _, h => ⟨fun h0 => hK _ _ (h.1 h0), fun i hi => oper_Q (fun a w h => any_Q hK f _ a w h) (h.2 i hi)⟩
theorem wpK_any {St : World → Prop} {K : Act → World → Prop} {Q' : Exit → Act → World → Prop} (hK : ∀ a w, K a w → Q' .normal a w) : ∀ (f : Nat) (listed : Array Bool) (a : Act) (w : World), wpK P r ops St K f listed a w → wpAnyIn (Fw r) 0 P .any ops Q' f listed a w
  | 0, _, _, _, h => ⟨h.1, hK _ _ h.2⟩
  | f + 1, _, _, _, h => by
    rcases h with h | h
    · exact ⟨fun h0 => hK _ _ (h.1 h0), fun i hi => opK_anyQ (fun a w h => wpK_any hK f _ a w h.2) (h.2 i hi)⟩
    · exact any_Q hK _ _ _ _ h.2
def plainB (ops : Array Oper) : Bool := ops.all fun o => noDefer o.op
theorem plainB_spec (h : plainB ops = true) (j : Nat) (o : Oper) (ho : ops[j]? = some o) : noDefer o.op = true := by
  unfold plainB at h
  exact Array.all_eq_true'.1 h o (Array.mem_of_getElem? ho)
theorem wpK_first {St : World → Prop} {K : Act → World → Prop} {i : Nat} {oi : Oper} {v : Value} (hi : ops[i]? = some oi) (hsel : Region.noSelect ops = true) (hpl : plainB ops = true) :
    ∀ (f : Nat) (listed : Array Bool) (a : Act) (w : World), St w →
      (∀ j oj, ops[j]? = some oj → j ≠ i → listed.getD j true = false → (∀ e ∈ oj.after, Region.binds .any e = true → e.on ≠ i) → oi.apart ops oj = true) →
      i ∈ Region.ready .any ops listed → YS P ops St oi v a →
      wpK P r ops St K f (listed.setIfInBounds i true) (a.put oi.dst v) w → wpK P r ops St K (f + 1) listed a w := by
  have hs := Region.noSelect_spec hsel
  have hp := plainB_spec hpl
  intro f
  induction f with
  | zero =>
    intro listed a w hS _ hr hy H
    refine .inl ⟨fun h => (by rw [h] at hr; cases hr), fun j hj => ?_⟩
    by_cases hji : j = i
    · subst hji; exact hy.opK hi (hp _ _ hi) hS ⟨hS, H⟩
    · have := ready_mono hj hji
      rw [H.1] at this
      cases this
  | succ f ih =>
    intro listed a w hS hfree hr hy H
    refine .inl ⟨fun h => (by rw [h] at hr; cases hr), fun j hj => ?_⟩
    by_cases hji : j = i
    · subst hji; exact hy.opK hi (hp _ _ hi) hS ⟨hS, H⟩
    · obtain ⟨hjun, oj, hoj, hall⟩ := mem_ready.1 hj
      have hnot : ∀ e ∈ oj.after, Region.binds .any e = true → e.on ≠ i := fun e he hb heq => by
        have h1 := hall e he hb
        have h0 := (mem_ready.1 hr).1
        rw [heq] at h1
        rcases Nat.lt_or_ge i listed.size with h' | h'
        · simp [h'] at h0 h1; rw [h0] at h1; cases h1
        · simp [Array.getElem?_eq_none h'] at h1
      rcases H with H | ⟨hT, _⟩
      · have h1 := H.2 j (ready_mono hj hji)
        have h2 := opK_put hoj (hfree j oj hoj hji hjun hnot) (hp _ _ hoj) (fun cs b => hs i oi cs b hi) (fun cs b => hs j oj cs b hoj) hy h1
        have hfree' : ∀ k ok, ops[k]? = some ok → k ≠ i → (listed.setIfInBounds j true).getD k true = false →
            (∀ e ∈ ok.after, Region.binds .any e = true → e.on ≠ i) → oi.apart ops ok = true := fun k ok hk hki hun hno => by
          refine hfree k ok hk hki ?_ hno
          by_cases hjk : j = k
          · subst hjk; exact hjun
          · rw [getD_set_ne true hjk] at hun; exact hun
        refine opK_mono (fun a' w' h3 => ⟨h3.2.1, ih (listed.setIfInBounds j true) a' w' h3.2.1 hfree' (ready_mono hr (Ne.symm hji)) h3.1 ?_⟩) h2
        rw [Array.setIfInBounds_comm _ _ hji]
        exact h3.2.2
      · exfalso
        have h1 := List.all_eq_true.1 hT j (ready_mono hj hji)
        have hilt : i < ops.size := (Array.getElem?_eq_some_iff.1 hi).1
        have h2 := List.all_eq_true.1 h1 i (List.mem_range.2 hilt)
        have hil : i < listed.size := by
          have h0 := (mem_ready.1 hr).1
          rcases Nat.lt_or_ge i listed.size with h' | h'
          · exact h'
          · simp [Array.getElem?_eq_none h'] at h0
        have h3 : (listed.setIfInBounds i true).getD i false = true := by simp [hil]
        simp only [h3, Bool.not_true, Bool.false_or, hoj] at h2
        obtain ⟨e, he, hb⟩ := Array.any_eq_true'.1 h2
        simp only [Bool.and_eq_true, beq_iff_eq] at hb
        exact hnot e he hb.1 hb.2
end
inductive Spl : List Atom → List Atom → List Atom → Prop
  | nil {A : List Atom} : Spl A [] A
  | cons {A R A2 Ap : List Atom} {a : Atom} : Pull A a R → Spl R Ap A2 → Spl A (a :: Ap) A2
theorem Spl.sats {w : World} {A Ap A2 : List Atom} (h : Spl A Ap A2) : ∀ {T : Nat → Prop}, Sats w A T → ∃ S U, Sats w Ap S ∧ Sats w A2 U ∧ (∀ k, S k → ¬ U k) ∧ (∀ k, T k ↔ S k ∨ U k) := by
  induction h with
  | nil => exact fun {T} h => ⟨fun _ => False, T, fun _ h => h, h, fun _ h => h.elim, fun k => by simp⟩
  | cons hp _ ih =>
    intro T h
    obtain ⟨S, U, ha, hA, hd, ht⟩ := h.pull hp
    obtain ⟨S', U', h1, h2, h3, h4⟩ := ih hA
    refine ⟨fun k => S k ∨ S' k, U', ⟨S, S', ha, h1, fun k hk hs => hd k hk ((h4 k).2 (.inl hs)), fun _ => Iff.rfl⟩, h2, ?_, ?_⟩
    · rintro k (hk | hk) hu
      · exact hd k hk ((h4 k).2 (.inr hu))
      · exact h3 k hk hu
    · intro k; rw [ht k, h4 k]; exact or_assoc.symm
def snap (W : World) (S : Nat → Prop) (hS : ∀ k, S k → k < W.heap.size) : Atom where
  P := fun w T => (∀ k, T k ↔ S k) ∧ (∀ k, S k → w.heap[k]? = W.heap[k]?)
  loc := fun h hs => ⟨h.1, fun k hk => (hs k ((h.1 k).2 hk)).trans (h.2 k hk)⟩
  lt := fun {w T k} h hk => by
    have h1 := h.2 k ((h.1 k).1 hk)
    have h2 := hS k ((h.1 k).1 hk)
    rw [Array.getElem?_eq_getElem h2] at h1
    exact (Array.getElem?_eq_some_iff.1 h1).1
def qB (ops : Array Oper) (listed : Array Bool) (i : Nat) : Bool := (Region.ready .any ops listed).contains i && Region.free .any ops listed i
def eB (ops : Array Oper) (listed : Array Bool) (i : Nat) : Bool := Region.ready .any ops listed == [i]
def seqB (ops : Array Oper) : Nat → Nat → Array Bool → Bool
  | 0, _, listed => (Region.ready .any ops listed).isEmpty
  | f + 1, k, listed => (Region.ready .any ops listed == [k]) && seqB ops f (k + 1) (listed.setIfInBounds k true)
def tlB (ops : Array Oper) (f k : Nat) (listed : Array Bool) : Bool := tailB ops listed && (f == ops.size - k) && seqB ops f k listed
section
variable {P : Program} {r : Option Nat} {ops : Array Oper} {Q : Exit → Act → World → Prop} {w0 : World} {n : Nat} {D : List Deferred} {L : Env} {A : List Atom}
variable {St : World → Prop} {K : Act → World → Prop} {f : Nat} {listed : Array Bool}
def Dr (P : Program) (r : Option Nat) (ops : Array Oper) (St : World → Prop) (K : Act → World → Prop) (w0 : World) (n : Nat) (D : List Deferred) (f : Nat) (listed : Array Bool) (L : Env) (A : List Atom) : Prop :=
  ∀ a w, Kn n D L a → Sat w0 w A → St w → Region.noSelect ops = true → plainB ops = true → wpK P r ops St K f listed a w
theorem Dr.q {i t : Nat} {op : Op} {ty : TypeId} {pos : String} {af : Array Edge} {g : Option (Nat × Bool)} {v : Value} {Ap : List Atom} (hAp : ∀ w, St w → Sat w0 w Ap) (hi : ops[i]? = some ⟨some t, op, ty, pos, af, g⟩) (hB : qB ops listed i = true)
    (hv : Qv P w0 n D L Ap op v) (h : Dr P r ops St K w0 n D f (listed.setIfInBounds i true) ((t, v) :: L) A)
    (hg : gd ops L ⟨some t, op, ty, pos, af, g⟩ = some true := by rfl) (ht : Nat.blt t n = true := by rfl) : Dr P r ops St K w0 n D (f + 1) listed L A := by
  intro a w hk hs hst hsel hpl
  simp only [qB, Bool.and_eq_true, List.contains_iff_mem] at hB
  exact wpK_first hi hsel hpl f listed a w hst (Region.free_spec hi hB.2) hB.1 (.inl ⟨hk.gd hg, fun w' hw' => (hv a w' hk (hAp w' hw') _ ty pos af g).1⟩)
    (h _ w (hk.put (by simpa [Nat.blt_eq] using ht) _) hs hst hsel hpl)
theorem Dr.sk {i t : Nat} {op : Op} {ty : TypeId} {pos : String} {af : Array Edge} {g : Option (Nat × Bool)} (hi : ops[i]? = some ⟨some t, op, ty, pos, af, g⟩) (hB : qB ops listed i = true)
    (h : Dr P r ops St K w0 n D f (listed.setIfInBounds i true) ((t, undef) :: L) A)
    (hg : gd ops L ⟨some t, op, ty, pos, af, g⟩ = some false := by rfl) (ht : Nat.blt t n = true := by rfl) : Dr P r ops St K w0 n D (f + 1) listed L A := by
  intro a w hk hs hst hsel hpl
  simp only [qB, Bool.and_eq_true, List.contains_iff_mem] at hB
  exact wpK_first hi hsel hpl f listed a w hst (Region.free_spec hi hB.2) hB.1 (.inr ⟨hk.gd hg, rfl⟩)
    (h _ w (hk.put (by simpa [Nat.blt_eq] using ht) _) hs hst hsel hpl)
theorem Dr.e {i : Nat} {o : Oper} (hi : ops[i]? = some o) (hB : eB ops listed i = true)
    (h : Ops P r ops (NQ (fun a w => St w ∧ (Region.noSelect ops = true → plainB ops = true → wpK P r ops St K f (listed.setIfInBounds i true) a w))) w0 n D [o] L A) : Dr P r ops St K w0 n D (f + 1) listed L A := by
  intro a w hk hs hst hsel hpl
  simp only [eB, beq_iff_eq] at hB
  refine .inl ⟨fun h => (by rw [hB] at h; cases h), fun j hj => ?_⟩
  rw [hB] at hj
  obtain rfl := List.mem_singleton.1 hj
  have h1 := h a w hk hs
  have h2 : wpOpIn (Fw r) 0 P ops (NQ (fun a w => St w ∧ (Region.noSelect ops = true → plainB ops = true → wpK P r ops St K f (listed.setIfInBounds j true) a w))) j
      (fun a w => St w ∧ (Region.noSelect ops = true → plainB ops = true → wpK P r ops St K f (listed.setIfInBounds j true) a w)) a w := by
    unfold wpListIn at h1
    unfold wpOpIn
    simp only [hi]
    exact h1
  exact oper_Q (fun a w (h : St w ∧ (Region.noSelect ops = true → plainB ops = true → wpK P r ops St K f (listed.setIfInBounds j true) a w)) => ⟨h.1, h.2 hsel hpl⟩) h2
theorem Dr.back (hF : ∀ w, Sat w0 w A → St w) (h : Dr P r ops St K w0 n D f listed L A) : Ops P r ops (NQ (fun a w => St w ∧ (Region.noSelect ops = true → plainB ops = true → wpK P r ops St K f listed a w))) w0 n D [] L A :=
  fun a w hk hs => ⟨hF w hs, h a w hk hs (hF w hs)⟩
theorem seq_any : ∀ (l : List Oper) (k : Nat) (listed : Array Bool) (a : Act) (w : World), (∀ j, l[j]? = ops[k + j]?) → seqB ops l.length k listed = true → wpListIn (Fw r) 0 P ops (NQ K) l a w → wpAnyIn (Fw r) 0 P .any ops (NQ K) l.length listed a w
  | [], _, _, _, _, _, hB, h => ⟨by simpa [seqB] using hB, h⟩
  | o :: l, k, listed, a, w, hl, hB, h => by
    have h0 : ops[k]? = some o := by simpa using (hl 0).symm
    simp only [List.length_cons, seqB, Bool.and_eq_true, beq_iff_eq] at hB
    refine ⟨fun h => (by rw [hB.1] at h; cases h), fun i hi => ?_⟩
    rw [hB.1] at hi
    obtain rfl := List.mem_singleton.1 hi
    have h1 : wpOpIn (Fw r) 0 P ops (NQ K) i (wpListIn (Fw r) 0 P ops (NQ K) l) a w := by
      unfold wpListIn at h
      unfold wpOpIn
      simp only [h0]
      exact h
    exact wpOpIn_mono (fun a' w' h' => seq_any l (i + 1) _ a' w' (fun j => by have := hl (j + 1); simpa [Nat.add_assoc, Nat.add_comm 1 j] using this) hB.2 h') h1
theorem Dr.tail (k : Nat) (hB : tlB ops f k listed = true) (h : Ops P r ops (NQ K) w0 n D (ops.toList.drop k) L A) : Dr P r ops St K w0 n D f listed L A := by
  intro a w hk hs _ _ _
  simp only [tlB, Bool.and_eq_true, beq_iff_eq] at hB
  obtain ⟨⟨h1, h2⟩, h3⟩ := hB
  have hlen : (ops.toList.drop k).length = f := by rw [h2]; simp
  have h4 := seq_any (P := P) (r := r) (K := K) (ops.toList.drop k) k listed a w (fun j => by simp [List.getElem?_drop]) (by rw [hlen]; exact h3) (h a w hk hs)
  rw [hlen] at h4
  cases f with
  | zero => exact h4
  | succ f => exact .inr ⟨h1, h4⟩
theorem Dr.sat {A' : List Atom} (h : Dr P r ops St K w0 n D f listed L A') (hs : ∀ w, Sat w0 w A → Sat w0 w A') : Dr P r ops St K w0 n D f listed L A := fun a w hk hsat => h a w hk (hs w hsat)
theorem Cd.draw {id : Nat} {l : List Oper} {Ap A2 : List Atom} (hm : P.follows .mixedOrders = true) (hB : (Region.noSelect l.toArray && plainB l.toArray) = true) (hsp : Spl A Ap A2)
    (h : ∀ (F : Atom) (St : World → Prop), (∀ w, St w → Sat w0 w Ap) → (∀ {w : World} {A R : List Atom}, Pull A F R → Sat w0 w A → St w) → (∀ {w : World} {A R : List Atom}, Pull A F R → Sat w0 w A → Sat w0 w (Ap ++ R)) →
      Dr P r l.toArray St (fun a w => Q .normal a w) w0 n D l.length (Array.replicate l.length false) L (F :: A2)) : Cd P r (.region id l.toArray true) Q w0 n D L A := by
  intro a w hk hs
  simp only [Bool.and_eq_true] at hB
  obtain ⟨hbl, T, hT, hge⟩ := hs
  obtain ⟨S, U, h1, h2, h3, h4⟩ := hsp.sats hT
  have hlt : ∀ k, S k → k < w.heap.size := fun k hk => h1.lt k hk
  refine wpIn_region_any hm ?_
  let St : World → Prop := fun w' => Below w0.heap.size w0 w' ∧ ∀ k, S k → w'.heap[k]? = w.heap[k]?
  have hAp : ∀ w', St w' → Sat w0 w' Ap := fun w' hw' => ⟨hw'.1, S, h1.loc hw'.2, fun k hk => hge k ((h4 k).2 (.inl hk))⟩
  have hF : ∀ {w' : World} {A R : List Atom}, Pull A (snap w S hlt) R → Sat w0 w' A → St w' := by
    intro w' A R hp hs'
    obtain ⟨T', ⟨S', _, hS', _⟩, _⟩ := (hs'.pull hp).sats
    exact ⟨hs'.below, hS'.2⟩
  have hR : ∀ {w' : World} {A R : List Atom}, Pull A (snap w S hlt) R → Sat w0 w' A → Sat w0 w' (Ap ++ R) := by
    intro w' A R hp hs'
    obtain ⟨hb', T', ⟨S', U', hS', hU', hd', ht'⟩, hge'⟩ := hs'.pull hp
    refine ⟨hb', _, hU'.append (h1.loc hS'.2) (fun k hk => hd' k ((hS'.1 k).2 hk)), ?_⟩
    rintro k (hk | hk)
    · exact hge k ((h4 k).2 (.inl hk))
    · exact hge' k ((ht' k).2 (.inr hk))
  have hs2 : Sat w0 w.drew (snap w S hlt :: A2) := by
    have : Sat w0 w (snap w S hlt :: A2) := ⟨hbl, T, ⟨S, U, ⟨fun _ => Iff.rfl, fun _ _ => rfl⟩, h2, h3, h4⟩, hge⟩
    exact this.drew
  have hd := h (snap w S hlt) St hAp hF hR a w.drew hk hs2 (hF .here hs2) hB.1 hB.2
  have := wpK_any (P := P) (r := r) (ops := l.toArray) (Q' := Q) (fun a w h => h) _ _ _ _ hd
  simpa using this
end
end Go.Proofs.YtilcdghliigngaaGl
namespace Go.Proofs.YtilcdghliigngaaGl
set_option linter.unusedVariables false
set_option linter.unusedSimpArgs false
open Go.RowKit
theorem fm_length {α : Type} {enc : α → List Value} {sz : Nat} (h : ∀ x, (enc x).length = sz) : ∀ (xs : List α), (xs.flatMap enc).length = xs.length * sz
  | [] => by simp
  | x :: xs => by rw [List.flatMap_cons, List.length_append, h, fm_length h xs, List.length_cons, Nat.succ_mul, Nat.add_comm]
theorem fm_get {α : Type} {enc : α → List Value} {sz : Nat} (h : ∀ x, (enc x).length = sz) : ∀ (xs : List α) (k j : Nat) (x : α) (v : Value), xs[k]? = some x → (enc x)[j]? = some v → (xs.flatMap enc)[k * sz + j]? = some v
  | [], k, j, x, v, hx, _ => by simp at hx
  | y :: ys, 0, j, x, v, hx, hv => by
    obtain rfl : y = x := by simpa using hx
    rw [List.flatMap_cons, Nat.zero_mul, Nat.zero_add, List.getElem?_append_left (List.getElem?_eq_some_iff.1 hv).1]
    exact hv
  | y :: ys, k + 1, j, x, v, hx, hv => by
    rw [List.flatMap_cons, List.getElem?_append_right (by rw [h, Nat.succ_mul]; omega), h]
    have := fm_get h ys k j x v (by simpa using hx) hv
    rw [show (k + 1) * sz + j - sz = k * sz + j by rw [Nat.succ_mul]; omega]
    exact this
def RoL {α : Type} (w : World) (a : Option Addr) (enc : α → List Value) (xs : List α) : Prop := Ro w a (xs.flatMap enc)
theorem RoL.later {α : Type} {w w' : World} {a : Option Addr} {enc : α → List Value} {xs : List α} (h : RoL w a enc xs) (hb : Below w.heap.size w w') : RoL w' a enc xs := Ro.later h hb
theorem RoL.at {α : Type} {w : World} {b o sz : Nat} {enc : α → List Value} {xs : List α} (h : RoL w (some ⟨b, o, none⟩) enc xs) (hs : ∀ x, (enc x).length = sz) {k j : Nat} {x : α} {v : Value} (hx : xs[k]? = some x) (hv : (enc x)[j]? = some v) :
    w.cell? ⟨b, o + k * sz + j, none⟩ = some v := by
  have := Ro.at h (fm_get hs xs k j x v hx hv)
  rwa [← Nat.add_assoc] at this
theorem RoL.at0 {α : Type} {w : World} {b o sz : Nat} {enc : α → List Value} {xs : List α} (h : RoL w (some ⟨b, o, none⟩) enc xs) (hs : ∀ x, (enc x).length = sz) {k : Nat} {x : α} {v : Value} (hx : xs[k]? = some x) (hv : (enc x)[0]? = some v) :
    w.cell? ⟨b, o + k * sz, none⟩ = some v := RoL.at h hs hx hv
theorem RoL.pos {α : Type} {w : World} {a : Option Addr} {enc : α → List Value} {xs : List α} {sz : Nat} (h : RoL w a enc xs) (hs : ∀ x, (enc x).length = sz + 1) {k : Nat} {x : α} (hx : xs[k]? = some x) : ∃ b o, a = some ⟨b, o, none⟩ :=
  Ro.pos h (by rw [fm_length hs]; have := (List.getElem?_eq_some_iff.1 hx).1; exact Nat.mul_pos (by omega) (by omega))
theorem fm_at {α : Type} {enc : α → List Value} {sz : Nat} {xs : List α} (hs : ∀ x, (enc x).length = sz) {k j : Nat} {x : α} {v : Value} (hx : xs[k]? = some x) (hv : (enc x)[j]? = some v) : (xs.flatMap enc)[0 + k * sz + j]? = some v := by
  rw [Nat.zero_add]; exact fm_get hs xs k j x v hx hv
theorem fm_at0 {α : Type} {enc : α → List Value} {sz : Nat} {xs : List α} (hs : ∀ x, (enc x).length = sz) {k : Nat} {x : α} {v : Value} (hx : xs[k]? = some x) (hv : (enc x)[0]? = some v) : (xs.flatMap enc)[0 + k * sz]? = some v := fm_at hs hx hv
theorem fm_one {α : Type} {enc : α → List Value} (h : ∀ x, ∀ u ∈ enc x, u.oneCell' = true) (xs : List α) : ∀ u ∈ xs.flatMap enc, u.oneCell' = true := fun u hu => by
  obtain ⟨x, _, hx⟩ := List.mem_flatMap.1 hu; exact h x u hx
def eInt (x : Int) : List Value := [.int .i64 x]
def eBool (x : Bool) : List Value := [.bool x]
theorem eInt_len (x : Int) : (eInt x).length = 1 := rfl
theorem eBool_len (x : Bool) : (eBool x).length = 1 := rfl
section
variable {P : Program} {r : Option Nat} {ops : Array Oper} {Q : Exit → Act → World → Prop} {w0 : World} {n : Nat} {D : List Deferred} {rest : List Oper} {L : Env} {A : List Atom}
variable {t : Nat} {ty : TypeId} {pos : String} {af : Array Edge} {g : Option (Nat × Bool)}
theorem Ops.to {y : Code} {Q' : Exit → Act → World → Prop} (hq : Q .normal = y.wpIn (Fw r) 0 P Q') (h : Cd P r y Q' w0 n D L A) : Ops P r ops Q w0 n D [] L A := Ops.nil (Cd.to hq h)
theorem Cd.skipTo {y : Code} {Q' : Exit → Act → World → Prop} (hq : Q .normal = y.wpIn (Fw r) 0 P Q') (h : Cd P r y Q' w0 n D L A) : Cd P r .skip Q w0 n D L A := Cd.skip (Cd.to hq h)
theorem Cd.exitTo {id : Nat} {y : Code} {Q' : Exit → Act → World → Prop} (hq : Q (.exit id) = y.wpIn (Fw r) 0 P Q') (h : Cd P r y Q' w0 n D L A) : Cd P r (.exit id) Q w0 n D L A := Cd.exit (Cd.to hq h)
theorem Cd.exitFin {id : Nat} {fn : Func} {R : Ending → World → Prop} (hq : Q (.exit id) = bodyPost P fn R .normal) (hr : fn.results = #[])
    (h : ∀ w, Sat w0 w A → R (.returned (.tuple #[])) w) : Cd P r (.exit id) Q w0 n [] L A :=
  Cd.exit (fun a w hk hs => by rw [hq]; exact endd (xs := []) (vs := []) (.inr rfl) hr trivial rfl h a w hk hs)
def Rnd {σ : Type} (I : σ → Prop) (Ls : σ → Env) (As : σ → List Atom) (μ : σ → Nat) (w0 : World) (n : Nat) (D : List Deferred) (m : Nat) (a : Act) (w : World) : Prop := ∃ s', I s' ∧ μ s' < m ∧ Kn n D (Ls s') a ∧ Sat w0 w (As s')
theorem Cd.lp {σ : Type} {c : Code} (I : σ → Prop) (Ls : σ → Env) (As : σ → List Atom) (μ : σ → Nat) (s0 : σ) (h0 : I s0) (hL : Sub (Ls s0) L) (hA : ∀ w, Sat w0 w A → Sat w0 w (As s0))
    (round : ∀ s, I s → Cd P r c (Exit.then (Rnd I Ls As μ w0 n D (μ s)) Q) w0 n D (Ls s) (As s)) : Cd P r (.loop c) Q w0 n D L A := Cd.loop I Ls As μ s0 h0 hL hA round
theorem Ops.rnd {σ : Type} {I : σ → Prop} {Ls : σ → Env} {As : σ → List Atom} {μ : σ → Nat} {m : Nat} (s' : σ) (hq : Q .normal = Rnd I Ls As μ w0 n D m) (hI : I s') (hm : μ s' < m) (hL : Sub (Ls s') L) (hA : ∀ w, Sat w0 w A → Sat w0 w (As s')) : Ops P r ops Q w0 n D [] L A :=
  Ops.nil (fun _ w hk hs => by rw [hq]; exact ⟨s', hI, hm, hk.sub hL, hA w hs⟩)
end
end Go.Proofs.YtilcdghliigngaaGl
namespace Go.Proofs.Ytilcdghliigngaa
set_option linter.unusedVariables false
set_option linter.unusedSimpArgs false
open Go.RowKit Go.Proofs.YtilcdghliigngaaGl Go.Proofs.YtilcdghliigngaaPm
def ePrm (p : Prm) : List Value := [.int .i64 p.lk, .int .i64 p.leak, .int .i64 p.bias, .int .i64 p.th, .int .i64 p.rk, .int .i64 p.rs, .int .i64 p.fl, .int .i64 p.rest]
def eSyn (s : Syn) : List Value := [.int .i64 s.src, .int .i64 s.dst, .int .i64 s.wt, .int .i64 s.dl]
def eEvt (e : Evt) : List Value := [.int .i64 e.tick, .int .i64 e.id]
def eStt (s : Stt) : List Value := [.int .i64 s.v, .int .i64 s.rest]
def eEdge (e : Edg) : List Value := [.int .i64 e.src, .int .i64 e.dst, .int .i64 e.len]
def eTap (t : Tap) : List Value := [.int .i64 t.inp, .int .i64 t.wt, .int .i64 t.dl]
def eMark (m : Mrk) : List Value := [.int .i64 m.inp, .int .i64 m.off]
theorem ePrm_len (p : Prm) : (ePrm p).length = 8 := rfl
theorem eSyn_len (s : Syn) : (eSyn s).length = 4 := rfl
theorem eEvt_len (s : Evt) : (eEvt s).length = 2 := rfl
theorem eStt_len (s : Stt) : (eStt s).length = 2 := rfl
theorem eEdge_len (s : Edg) : (eEdge s).length = 3 := rfl
theorem eTap_len (s : Tap) : (eTap s).length = 3 := rfl
theorem eMark_len (s : Mrk) : (eMark s).length = 2 := rfl
theorem ePrm_one (p : Prm) : ∀ u ∈ ePrm p, u.oneCell' = true := one rfl
theorem eEvt_one (p : Evt) : ∀ u ∈ eEvt p, u.oneCell' = true := one rfl
theorem eInt_one (p : Int) : ∀ u ∈ eInt p, u.oneCell' = true := one rfl
theorem ebool {b : Bool} {p : Prop} [Decidable p] (h : b = true ↔ p) : Ending.returned (joinV [.bool b]) = .returned (.bool (decide p)) := by
  have : b = decide p := by cases b <;> simp_all
  rw [this]; rfl
theorem fm_app {α : Type} (f : α → List Value) (xs ys : List α) : (xs ++ ys).flatMap f = xs.flatMap f ++ ys.flatMap f := List.flatMap_append
abbrev bld (B : Nat) (na : Option Addr) (nc : Nat) (sa : Option Addr) (sc : Nat) (ns : List Prm) (ip : Int) (ss : List Syn) (F : List Atom) : List Atom :=
  blk B 114 [.slice na ns.length nc, .int .i64 ip, .slice sa ss.length sc] :: row na nc 116 8 ns.length (ns.flatMap ePrm) :: row sa sc 126 4 ss.length (ss.flatMap eSyn) :: F
end Go.Proofs.Ytilcdghliigngaa
namespace Go.Proofs.YtilcdghliigngaaGl
set_option linter.unusedVariables false
set_option linter.unusedSimpArgs false
open Go.RowKit
section
variable {P : Program} {r : Option Nat} {ops : Array Oper} {Q : Exit → Act → World → Prop} {w0 : World} {n : Nat} {D : List Deferred} {rest : List Oper} {L : Env} {A : List Atom}
variable {t : Nat} {ty : TypeId} {pos : String} {af : Array Edge} {g : Option (Nat × Bool)}
theorem q_min {x y : Operand} {ats : Array TypeId} {k k' : IntKind} {i j : Int} (hx : ev L x = some (.int k i)) (hy : ev L y = some (.int k' j)) : Qv P w0 n D L A (.call ⟨.builtin .min, #[x, y], ats⟩) (.int k (min i j)) := fun a w hk _ _ _ _ _ _ => ⟨by
    have e : (if j < i then j else i) = min i j := by split <;> omega
    simp [execOp, resolve, invoke, builtin, hk.ev hx, hk.ev hy, Builtin.min_, Builtin.min2, e], rfl⟩
theorem q_max {x y : Operand} {ats : Array TypeId} {k k' : IntKind} {i j : Int} (hx : ev L x = some (.int k i)) (hy : ev L y = some (.int k' j)) : Qv P w0 n D L A (.call ⟨.builtin .max, #[x, y], ats⟩) (.int k (max i j)) := fun a w hk _ _ _ _ _ _ => ⟨by
    have e : (if i < j then j else i) = max i j := by split <;> omega
    simp [execOp, resolve, invoke, builtin, hk.ev hx, hk.ev hy, Builtin.max_, Builtin.max2, e], rfl⟩
theorem Ops.cvE {f : Operand} {xs : List Operand} {ats : Array TypeId} {vs : List Value} {fv v : Value} (hf : ev L f = some fv) (hx : evs L xs = some vs)
    (hc : ∃ k, Enters P k ∧ fv = .func (.func k) #[] #[] ∧ ∀ w, Sat w0 w A → Calls P k vs.toArray w fun e w' => e = .returned v ∧ Sat w w' [])
    (h : Ops P r ops Q w0 n D rest ((t, v) :: L) A)
    (hg : gd ops L ⟨some t, .call ⟨.value f, xs.toArray, ats⟩, ty, pos, af, g⟩ = some true := by rfl) (ht : Nat.blt t n = true := by rfl) :
    Ops P r ops Q w0 n D (⟨some t, .call ⟨.value f, xs.toArray, ats⟩, ty, pos, af, g⟩ :: rest) L A := by
  obtain ⟨k, he, rfl, hc⟩ := hc
  exact Ops.cv (α := Unit) (k := k) (first := []) (caps := []) (v := fun _ => v) (A' := fun _ => A) he hf hx (fun w hs => by
    rw [List.nil_append, List.append_nil]
    exact (hc w hs).mono fun e w' h => ⟨(), h.1, by simpa using hs.over h.2⟩) (fun _ => h) hg ht
theorem rq_here {fn : Func} {R : Ending → World → Prop} : bodyPost P fn R .ret = bodyPost P fn R .ret := rfl
theorem rq_then {K : Act → World → Prop} {Q : Exit → Act → World → Prop} {X : Act → World → Prop} (h : Q .ret = X) : Exit.then K Q .ret = X := h
theorem rq_block {id : Nat} {Q : Exit → Act → World → Prop} {X : Act → World → Prop} (h : Q .ret = X) : Exit.inBlock id Q .ret = X := h
theorem Ops.mks {T E : TypeId} {x y : Operand} {zs : List Value} {sz by_ m : Nat} (hT : elT P T = some E) (hE : zsb P E = some (zs, sz, by_)) (hx : ev L x = some (.int .i64 (m : Int))) (hy : ev L y = some (.int .i64 (m : Int)))
    (hb : m * by_ ≤ 140737488355328) (hb' : m ≤ 140737488355328)
    (h : ∀ b, Ops P r ops Q w0 n D rest ((t, .slice (some ⟨b, 0, none⟩) m m) :: L) (row (some ⟨b, 0, none⟩) m E sz m (rep m zs) :: A))
    (hg : gd ops L ⟨some t, .makeSlice T x y, ty, pos, af, g⟩ = some true := by rfl) (ht : Nat.blt t n = true := by rfl) :
    Ops P r ops Q w0 n D (⟨some t, .makeSlice T x y, ty, pos, af, g⟩ :: rest) L A :=
  Ops.val (v := fun b => .slice (some ⟨b, 0, none⟩) m m) (A' := fun b => row (some ⟨b, 0, none⟩) m E sz m (rep m zs) :: A) hg rfl ht rfl (fun a w hk hs => by
    obtain ⟨i, z, hi, hz, hsz, hby, hzs, hzl⟩ := zsb_u hE
    have h63' : (m : Int) ≤ 9223372036854775807 := by omega
    have hb' : (i.bytes : Int) * (m : Int) ≤ 281474976710656 := by
      rw [hby, Int.mul_comm]
      have h : ((m * by_ : Nat) : Int) ≤ 281474976710656 := by omega
      rwa [Int.natCast_mul] at h
    have hr := run_make (P := P) w T E i z (elT_u hT) hi hz .i64 .i64 m m (by omega) (Int.le_refl _) hb' h63'
    simp only [Int.toNat_natCast] at hr
    refine ⟨w.heap.size, w.alloc (.cells (madeCells z.cells (m * i.size)) E), by simp only [execOp, hk.ev hx, hk.ev hy, Sem.run_bind, hr, Result.andThen_ok, Sem.run_pure], ?_⟩
    have e : (madeCells z.cells (m * i.size)) = (rep m zs).toArray := by
      apply Array.toList_inj.1
      rw [← hzl, hsz, ← hzs, ← rep_eq]
      rfl
    rw [e]
    exact hs.newRow E sz m (rep m zs) (by rw [rep_length, ← hzl, Array.length_toList, hzs]) (by simp only [maxLen]; omega)) h
theorem q_cut {T E : TypeId} {x y : Operand} {sz len cap k : Nat} {a : Option Addr} {kd : IntKind} (hT : elT P T = some E) (hz : szT P E = some sz) (hx : ev L x = some (.slice a len cap)) (hy : ev L y = some (.int kd (k : Int))) (hk : k ≤ len) :
    Qv P w0 n D L A (.slice T x (some y) none none) (.slice (if cap = k then a else a.map (·.add (k * sz))) (len - k) (cap - k)) := fun ac w hk' _ _ _ _ _ _ => ⟨by
    have h1 : (0 ≤ (k : Int) ∧ (k : Int) ≤ (len : Int)) := by omega
    simp [execOp, hk'.ev hx, hk'.ev hy, Instr.sliceAt, Instr.slice, run_underlying (elT_u hT), Instr.sliceBounds, Instr.sliceBound, asIntOf, h1, run_sizeOf hz]
    intro h; omega, rfl⟩
theorem q_cutH {T E : TypeId} {x y : Operand} {sz len cap k : Nat} {a : Option Addr} {kd : IntKind} (hT : elT P T = some E) (hz : szT P E = some sz) (hx : ev L x = some (.slice a len cap)) (hy : ev L y = some (.int kd (k : Int))) (hk : k ≤ cap) :
    Qv P w0 n D L A (.slice T x none (some y) none) (.slice (if cap = 0 then a else a.map (·.add 0)) k cap) := fun ac w hk' _ _ _ _ _ _ => ⟨by
    have h1 : (0 ≤ (k : Int) ∧ (k : Int) ≤ (cap : Int)) := by omega
    simp [execOp, hk'.ev hx, hk'.ev hy, Instr.sliceAt, Instr.slice, run_underlying (elT_u hT), Instr.sliceBounds, Instr.sliceBound, asIntOf, h1, run_sizeOf hz]
    intro h; omega, rfl⟩
theorem Ops.clr {T E : TypeId} {x : Operand} {zs cs : List Value} {sz by_ m cap : Nat} {a : Option Addr} {A' : List Atom} (hT : elT P T = some E) (hE : zsb P E = some (zs, sz, by_)) (hx : ev L x = some (.slice a m cap)) (h1 : ∀ u ∈ zs, u.oneCell' = true)
    (hu : Upd A (row a cap E sz m cs) (row a cap E sz m (rep m zs)) A') (h : Ops P r ops Q w0 n D rest ((t, .tuple #[]) :: L) A')
    (hg : gd ops L ⟨some t, .call ⟨.builtin .clear, #[x], #[T]⟩, ty, pos, af, g⟩ = some true := by rfl) (ht : Nat.blt t n = true := by rfl) :
    Ops P r ops Q w0 n D (⟨some t, .call ⟨.builtin .clear, #[x], #[T]⟩, ty, pos, af, g⟩ :: rest) L A :=
  Ops.val (α := Unit) (v := fun _ => .tuple #[]) (A' := fun _ => A') hg rfl ht rfl (fun ac w hk hs => by
    obtain ⟨i, z, hi, hz, hsz, hby, hzs, hzl⟩ := zsb_u hE
    obtain ⟨R, hp, hp'⟩ := hu.pull
    obtain ⟨S, hS, _, hgo⟩ := (hs.pull hp).step
    obtain ⟨⟨hlen, hown⟩, hSb⟩ := hS
    have hzl' : zs.length = sz := by rw [← hzl, Array.length_toList, hzs]
    rcases Nat.eq_zero_or_pos m with h0 | hm
    · subst h0
      have hc0 : cs = [] := List.eq_nil_of_length_eq_zero (by simpa using hlen)
      subst hc0
      refine ⟨(), w, ?_, Sat.push ?_ hp'⟩
      · cases a <;> simp [execOp, resolve, invoke, builtin, hk.ev hx, Builtin.clear_, run_underlying (elT_u hT)]
      · exact hgo (S' := S) ⟨⟨by simp [rep], hown⟩, hSb⟩ (fun _ h => .inl h) rfl rfl rfl (Nat.le_refl _) (fun _ _ _ => rfl)
    rcases hown with ⟨_, h0⟩ | ⟨b', cap', cur, hv0, _, hh, h2, h3, h4, h5⟩
    · omega
    · cases hv0
      have hcl : m * sz ≤ cur.size := Nat.le_trans (Nat.mul_le_mul_right sz h2) (by rw [h4]; exact Nat.le_refl _)
      have e : cur = (cs ++ cur.toList.drop (m * sz)).toArray := by
        apply Array.toList_inj.1
        simp only [← h5, List.take_append_drop]
      have hh' : w.heap[b']? = some (.cells (cs ++ cur.toList.drop (m * sz)).toArray E (0, 0)) := by rw [← e]; exact hh
      have hzc : (Builtin.zeroCells z.cells m).toList = rep m zs := by rw [← hzl, ← rep_eq]; rfl
      have hone : ∀ u ∈ rep m zs, u.oneCell' = true := by
        intro u hu2
        simp only [rep, List.mem_flatten, List.mem_replicate] at hu2
        obtain ⟨l, ⟨_, hl⟩, hu3⟩ := hu2
        exact h1 u (hl ▸ hu3)
      have hst := run_storeCells_at P b' 0 E (rep m zs) 0 (cs ++ cur.toList.drop (m * sz)).toArray w hh' (by rw [rep_length, hzl']; simp only [List.size_toArray, List.length_append, hlen]; omega) hone
      simp only [Nat.add_zero, Nat.zero_add, List.take_zero, List.nil_append] at hst
      have e2 : (cs ++ cur.toList.drop (m * sz)).drop (rep m zs).length = cur.toList.drop (m * sz) := by
        rw [rep_length, hzl', ← hlen]; simp
      refine ⟨(), w.setRow b' (rep m zs ++ cur.toList.drop (m * sz)).toArray, ?_, Sat.push ?_ hp'⟩
      · obtain ⟨m', rfl⟩ : ∃ m', m = m' + 1 := ⟨m - 1, by omega⟩
        have hzv : ∀ w, (zeroValue E).run P w = .ok z w := fun w => by simp [zeroValue, typeInfo, hi, hz]
        simp only [execOp, resolve, invoke, builtin, hk.ev hx, List.map_toArray, List.map_cons, List.map_nil, Sem.run_bind, Sem.run_pure, Result.andThen_ok, Builtin.clear_]
        simp [run_underlying (elT_u hT), hzv, hzc, hst, e2]
      · refine hgo (S' := fun k => k = b') ⟨⟨by rw [rep_length, hzl'], .inr ⟨b', cap, _, rfl, Nat.zero_le _, setRow_heap w b' _ _ E _ hh, h2, h3, ?_, ?_⟩⟩, fun k => by simp [Value.ownBlock, eq_comm]⟩ (fun k hk => .inl ((hSb k).2 (by simp [Value.ownBlock, hk])))
          rfl rfl rfl (by simp) (fun k _ hk => setRow_other w b' k _ (fun e => hk ((hSb k).2 (by simp [Value.ownBlock, e]))))
        · simp only [List.size_toArray, List.length_append, List.length_drop, Array.length_toList, rep_length, hzl', h4]
          rw [h4] at hcl
          omega
        · simp only [List.toList_toArray]
          rw [show m * sz = (rep m zs).length by rw [rep_length, hzl']]
          exact List.take_left) (fun _ => h)
def findI (k : Int) : List (Int × Value) → Nat → Option (Nat × Value)
  | [], _ => none
  | (j, v) :: es, i => if k = j then some (i, v) else findI k es (i + 1)
def ents (l : List MapEntry) (es : List (Int × Value)) : Prop := l.map (fun e => (e.key, e.val)) = es.map (fun p => (Value.int .i64 p.1, p.2))
theorem findNow_ents {kd : IntKind} (k : Int) : ∀ (l : List MapEntry) (es : List (Int × Value)) (i : Nat), ents l es → Instr.findNow (.int kd) (.int .i64 k) l i = some (findI k es i)
  | [], [], _, _ => rfl
  | [], _ :: _, _, h => by simp [ents] at h
  | _ :: _, [], _, h => by simp [ents] at h
  | e :: l, (j, v) :: es, i, h => by
    simp only [ents, List.map_cons, List.cons.injEq, Prod.mk.injEq] at h
    obtain ⟨⟨h1, h2⟩, h3⟩ := h
    simp only [Instr.findNow, h1, Instr.sameNow, if_true, findI, h2]
    by_cases hk : k = j
    · subst hk
      rw [show (k == k) = true by simp]; simp
    · rw [show (k == j) = false by simp [hk], if_neg hk]
      exact findNow_ents k l es (i + 1) h3
theorem findI_shift (k : Int) : ∀ (es : List (Int × Value)) (i : Nat), findI k es i = (findI k es 0).map (fun p => (p.1 + i, p.2))
  | [], _ => rfl
  | (j, v) :: es, i => by
    simp only [findI]
    split
    · simp
    · rw [findI_shift k es (i + 1), findI_shift k es 1]
      cases findI k es 0 <;> simp; omega
def looki (es : List (Int × Value)) (k : Int) : Option Value := (findI k es 0).map (·.2)
def updI (es : List (Int × Value)) (k : Int) (v : Value) : List (Int × Value) :=
  match findI k es 0 with
  | some (i, _) => es.modify i fun p => (p.1, v)
  | none => es ++ [(k, v)]
theorem findI_get (k : Int) : ∀ (es : List (Int × Value)) (i : Nat) (v : Value), findI k es 0 = some (i, v) → es[i]? = some (k, v)
  | [], i, v, h => by simp [findI] at h
  | (j, u) :: es, i, v, h => by
    simp only [findI] at h
    split at h
    · rename_i hk
      simp only [Option.some.injEq, Prod.mk.injEq] at h
      obtain ⟨rfl, rfl⟩ := h
      simp [hk]
    · rw [findI_shift] at h
      cases hf : findI k es 0 with
      | none => rw [hf] at h; cases h
      | some p =>
        rw [hf] at h
        simp only [Option.map_some, Option.some.injEq, Prod.mk.injEq] at h
        obtain ⟨rfl, rfl⟩ := h
        simpa using findI_get k es p.1 p.2 hf
def imap (b : Nat) (es : List (Int × Value)) : Atom where
  P := fun w S => (∃ l c, w.heap[b]? = some (.map l c) ∧ ents l.toList es) ∧ ∀ k, S k ↔ k = b
  loc := fun {w w' S} h hs => ⟨let ⟨l, c, h1, h2⟩ := h.1; ⟨l, c, (hs b ((h.2 b).2 rfl)).trans h1, h2⟩, h.2⟩
  lt := fun {w S k} h hk => by obtain ⟨⟨l, c, h1, _⟩, h2⟩ := h; rw [(h2 _).1 hk]; exact (Array.getElem?_eq_some_iff.1 h1).1
def mpT (P : Program) (t : TypeId) : Option (TypeId × TypeId) :=
  match P.underlying t with
  | some (.map k e) => some (k, e)
  | _ => none
theorem mpT_u {t k e : TypeId} (h : mpT P t = some (k, e)) : P.underlying t = some (.map k e) := by
  unfold mpT at h
  cases hu : P.underlying t with
  | none => rw [hu] at h; cases h
  | some d => rw [hu] at h; cases d <;> cases h; rfl
theorem run_checkInt {w : World} {kt : TypeId} {kd : IntKind} {k : Int} (hd : iK P kt = some kd) (e : Bool) : (Instr.checkKey e 10000 kt (.int .i64 k)).run P w = .ok () w := by
  rw [show (10000 : Nat) = 9999 + 1 from rfl]
  unfold Instr.checkKey
  simp only [Sem.run_bind, run_underlying (iK_u hd), Result.andThen_ok]
  rfl
theorem run_findInt {w : World} {kt : TypeId} {kd : IntKind} {k : Int} {l : List MapEntry} {es : List (Int × Value)} (hd : iK P kt = some kd) (h : ents l es) : (Instr.findKey kt (.int .i64 k) l).run P w = .ok (findI k es 0) w := by
  simp [Instr.findKey, run_underlying (iK_u hd), findNow_ents k l es 0 h]
theorem Ops.mkm {T : TypeId} (h : ∀ b, Ops P r ops Q w0 n D rest ((t, .map (some b)) :: L) (imap b [] :: A))
    (hg : gd ops L ⟨some t, .makeMap T none, ty, pos, af, g⟩ = some true := by rfl) (ht : Nat.blt t n = true := by rfl) :
    Ops P r ops Q w0 n D (⟨some t, .makeMap T none, ty, pos, af, g⟩ :: rest) L A :=
  Ops.val (v := fun b => .map (some b)) (A' := fun b => imap b [] :: A) hg rfl ht rfl (fun a w hk hs => by
    refine ⟨w.heap.size, w.alloc (.map #[] 0), by simp [execOp, Instr.makeMap, newObj, Sem.run], ?_⟩
    exact hs.add (Below.alloc (Below.refl _ _) (Nat.le_refl _) _) (S := fun k => k = w.heap.size) ⟨⟨_, _, heap_alloc_new w _, rfl⟩, fun _ => Iff.rfl⟩ (fun _ hk => by omega)) h
theorem q_lookW {T K E : TypeId} {kd : IntKind} {x y : Operand} {b : Nat} {k : Int} {v : Value} (hT : mpT P T = some (K, E)) (hK : iK P K = some kd) (hx : ev L x = some (.map (some b))) (hy : ev L y = some (.int .i64 k))
    (hv : ∀ w, Sat w0 w A → ∃ l c es, w.heap[b]? = some (.map l c) ∧ ents l.toList es ∧ (looki es k = some v ∨ looki es k = none ∧ (zeroValue E).run P w = .ok v w)) : Qv P w0 n D L A (.lookup T x y false) v := fun a w hk hs' _ _ _ _ _ => ⟨by
    obtain ⟨l, c, es, h1, h2, h3⟩ := hv w hs'
    simp only [execOp, hk.ev hx, hk.ev hy, Instr.lookup, Sem.run_bind, run_underlying (mpT_u hT), Result.andThen_ok, MapKept.run_getObj_map h1, Sem.run_pure, run_checkInt hK, run_findInt hK h2, looki] at h3 ⊢
    cases hf : findI k es 0 with
    | none =>
      rw [hf] at h3
      rcases h3 with h3 | ⟨_, h3⟩
      · cases h3
      · simp [h3]
    | some p =>
      rw [hf] at h3
      rcases h3 with h3 | ⟨h3, _⟩
      · simp only [Option.map_some, Option.some.injEq] at h3
        subst h3
        simp
      · simp at h3, rfl⟩
theorem q_look {T K E : TypeId} {kd : IntKind} {x y : Operand} {b : Nat} {k : Int} {v : Value} {es : List (Int × Value)} {A' : List Atom} (hT : mpT P T = some (K, E)) (hK : iK P K = some kd) (hx : ev L x = some (.map (some b))) (hy : ev L y = some (.int .i64 k))
    (hp : Pull A (imap b es) A') (hv : looki es k = some v ∨ looki es k = none ∧ ∀ w, (zeroValue E).run P w = .ok v w) : Qv P w0 n D L A (.lookup T x y false) v :=
  q_lookW hT hK hx hy (fun w hs => by
    obtain ⟨S, ⟨⟨l, c, h1, h2⟩, _⟩⟩ := hs.mem hp
    exact ⟨l, c, es, h1, h2, hv.imp id (fun h => ⟨h.1, h.2 w⟩)⟩)
theorem ents_modify {l : List MapEntry} {es : List (Int × Value)} (h : ents l es) (i : Nat) (k : Int) (v u : Value) (hi : es[i]? = some (k, u)) : ents (l.modify i fun e => { e with key := .int .i64 k, val := v }) (es.modify i fun p => (p.1, v)) := by
  unfold ents at *
  apply List.ext_getElem?
  intro j
  have hj := congrArg (·[j]?) h
  simp only [List.getElem?_map, List.getElem?_modify] at hj ⊢
  by_cases e : i = j
  · subst e
    rw [hi] at hj ⊢
    cases hl : l[i]? with
    | none => rw [hl] at hj; simp at hj
    | some m => simp
  · cases hl : l[j]? <;> cases he : es[j]? <;> simp_all
theorem run_mapUpdI {w : World} {T K E : TypeId} {kd : IntKind} {b c : Nat} {l : Array MapEntry} {es : List (Int × Value)} {k : Int} {v : Value} (hT : mpT P T = some (K, E)) (hK : iK P K = some kd) (hb : w.heap[b]? = some (.map l c)) (he : ents l.toList es) :
    ∃ l' c', (Instr.mapUpdate T (.map (some b)) (.int .i64 k) v).run P w = .ok () { w with heap := w.heap.setIfInBounds b (.map l' c') } ∧ ents l'.toList (updI es k v) := by
  simp only [Instr.mapUpdate, Sem.run_bind, run_underlying (mpT_u hT), Result.andThen_ok, MapKept.run_getObj_map hb, run_checkInt hK, run_findInt hK he, updI]
  cases hf : findI k es 0 with
  | none =>
    refine ⟨l.push _, c + 1, MapKept.run_setObj_map _ hb, ?_⟩
    unfold ents at *
    simp [he]
  | some p =>
    obtain ⟨i, u⟩ := p
    have hg := findI_get k es i u hf
    have hl : ∃ m, l[i]? = some m ∧ m.key = .int .i64 k := by
      have hj := congrArg (·[i]?) he
      simp only [List.getElem?_map, hg, Option.map_some, Array.getElem?_toList] at hj
      cases hm : l[i]? with
      | none => rw [hm] at hj; cases hj
      | some m => rw [hm] at hj; simp at hj; exact ⟨m, rfl, hj.1⟩
    obtain ⟨m, hm, hmk⟩ := hl
    have hst : ∀ w : World, (Instr.keyThatStays (.int .i64 k) (.int .i64 k)).run P w = .ok (.int .i64 k) w := by
      intro w
      unfold Instr.keyThatStays
      rw [show (10000 : Nat) = 9999 + 1 from rfl]
      simp [Instr.sameBits]
    refine ⟨l.modify i fun e => { e with key := .int .i64 k, val := v }, c, ?_, ?_⟩
    · simp only [hm, Option.map_some, hmk, Option.getD_some, Sem.run_bind, hst, Result.andThen_ok]
      exact MapKept.run_setObj_map _ hb
    · rw [Array.toList_modify]
      exact ents_modify he i k v u hg
theorem Ops.mpu {T K E : TypeId} {kd : IntKind} {x y z : Operand} {b : Nat} {k : Int} {v : Value} {es : List (Int × Value)} {A' : List Atom} (hT : mpT P T = some (K, E)) (hK : iK P K = some kd) (hx : ev L x = some (.map (some b))) (hy : ev L y = some (.int .i64 k)) (hz : ev L z = some v)
    (hu : Upd A (imap b es) (imap b (updI es k v)) A') (h : Ops P r ops Q w0 n D rest L A')
    (hg : gd ops L ⟨none, .mapUpdate T x y z, ty, pos, af, g⟩ = some true := by rfl) :
    Ops P r ops Q w0 n D (⟨none, .mapUpdate T x y z, ty, pos, af, g⟩ :: rest) L A :=
  Ops.act (α := Unit) (A' := fun _ => A') hg rfl rfl (fun a w hk hs => by
    obtain ⟨R, hp, hp'⟩ := hu.pull
    obtain ⟨S, hS, _, hgo⟩ := (hs.pull hp).step
    obtain ⟨⟨l, c, hb, he⟩, hSb⟩ := hS
    obtain ⟨l', c', hr, he'⟩ := run_mapUpdI (v := v) (k := k) hT hK hb he
    refine ⟨(), { w with heap := w.heap.setIfInBounds b (.map l' c') }, by simp only [execOp, hk.ev hx, hk.ev hy, hk.ev hz, Sem.run_bind, hr, Result.andThen_ok, Sem.run_pure], Sat.push ?_ hp'⟩
    obtain ⟨h1, h2⟩ := MapKept.heap_set (o' := .map l' c') hb
    exact hgo (S' := fun k => k = b) ⟨⟨l', c', h1, he'⟩, fun _ => Iff.rfl⟩ (fun k hk => .inl ((hSb k).2 hk)) rfl rfl rfl (by simp) (fun k _ hk => h2 k (fun e => hk ((hSb k).2 e)))) (fun _ => h)
end
end Go.Proofs.YtilcdghliigngaaGl
namespace Go.Proofs.Ytilcdghliigngaa
open Go.RowKit Go.Proofs.YtilcdghliigngaaGl Go.Proofs.YtilcdghliigngaaPm
set_option linter.unusedVariables false
set_option linter.unusedSimpArgs false
theorem in_c (a b c : Int) (w : World) : Calls Try.prog 57 [.int .i64 a, .int .i64 b, .int .i64 c].toArray w fun e w' => e = .returned (.bool (decide (b ≤ a ∧ a ≤ c))) ∧ Sat w w' [] := by
  refine fstart Try.func57 rfl rfl (Sat.nil w) ?_
  refine Cd.seq ?_
  refine Cd.region ?_
  refine Ops.q (q_asg rfl) ?_
  refine Ops.to rfl ?_
  refine Cd.seq ?_
  refine Cd.region ?_
  refine Ops.q (q_mv rfl) ?_
  refine Ops.q (q_mv rfl) ?_
  by_cases h1 : b ≤ a
  · refine Ops.q (q_cmp rfl rfl (c_ge h1)) ?_
    refine Ops.q (q_mv rfl) ?_
    refine Ops.q (q_mv rfl) ?_
    refine Ops.q (q_mv rfl) ?_
    by_cases h2 : a ≤ c
    · refine Ops.q (q_cmp rfl rfl (c_le h2)) ?_
      refine Ops.q (q_pickT rfl rfl) ?_
      refine Ops.q (q_asg rfl) ?_
      refine Ops.to rfl ?_
      refine Cd.rt (fn := Try.f57) [.bool true] (by with_reducible repeat (first | exact rq_here | apply rq_then | apply rq_block)) rfl ⟨rfl, trivial⟩ ?_
      intro w' hs
      exact ⟨ebool (by simp; try omega), hs⟩
    · refine Ops.q (q_cmp rfl rfl (c_nle (by omega))) ?_
      refine Ops.q (q_pickT rfl rfl) ?_
      refine Ops.q (q_asg rfl) ?_
      refine Ops.to rfl ?_
      refine Cd.rt (fn := Try.f57) [.bool false] (by with_reducible repeat (first | exact rq_here | apply rq_then | apply rq_block)) rfl ⟨rfl, trivial⟩ ?_
      intro w' hs
      exact ⟨ebool (by simp; try omega), hs⟩
  · refine Ops.q (q_cmp rfl rfl (c_nge (by omega))) ?_
    refine Ops.q (q_mv rfl) ?_
    refine Ops.sk ?_
    refine Ops.sk ?_
    refine Ops.sk ?_
    refine Ops.q (q_pickF rfl rfl) ?_
    refine Ops.q (q_asg rfl) ?_
    refine Ops.to rfl ?_
    refine Cd.rt (fn := Try.f57) [.bool false] (by with_reducible repeat (first | exact rq_here | apply rq_then | apply rq_block)) rfl ⟨rfl, trivial⟩ ?_
    intro w' hs
    exact ⟨ebool (by simp; try omega), hs⟩
theorem nwithin_c (a b c : Int) (w : World) : Calls Try.prog 74 [.int .i64 a, .int .i64 b, .int .i64 c].toArray w fun e w' => e = .returned (.bool (decide (b ≤ a ∧ a ≤ c))) ∧ Sat w w' [] := by
  refine fstart Try.func74 rfl rfl (Sat.nil w) ?_
  refine Cd.seq ?_
  refine Cd.region ?_
  refine Ops.q (q_asg rfl) ?_
  refine Ops.to rfl ?_
  refine Cd.seq ?_
  refine Cd.region ?_
  refine Ops.q (q_mv rfl) ?_
  refine Ops.q (q_mv rfl) ?_
  by_cases h1 : b ≤ a
  · refine Ops.q (q_cmp rfl rfl (c_ge h1)) ?_
    refine Ops.q (q_mv rfl) ?_
    refine Ops.q (q_mv rfl) ?_
    refine Ops.q (q_mv rfl) ?_
    by_cases h2 : a ≤ c
    · refine Ops.q (q_cmp rfl rfl (c_le h2)) ?_
      refine Ops.q (q_pickT rfl rfl) ?_
      refine Ops.q (q_asg rfl) ?_
      refine Ops.to rfl ?_
      refine Cd.rt (fn := Try.f74) [.bool true] (by with_reducible repeat (first | exact rq_here | apply rq_then | apply rq_block)) rfl ⟨rfl, trivial⟩ ?_
      intro w' hs
      exact ⟨ebool (by simp; try omega), hs⟩
    · refine Ops.q (q_cmp rfl rfl (c_nle (by omega))) ?_
      refine Ops.q (q_pickT rfl rfl) ?_
      refine Ops.q (q_asg rfl) ?_
      refine Ops.to rfl ?_
      refine Cd.rt (fn := Try.f74) [.bool false] (by with_reducible repeat (first | exact rq_here | apply rq_then | apply rq_block)) rfl ⟨rfl, trivial⟩ ?_
      intro w' hs
      exact ⟨ebool (by simp; try omega), hs⟩
  · refine Ops.q (q_cmp rfl rfl (c_nge (by omega))) ?_
    refine Ops.q (q_mv rfl) ?_
    refine Ops.sk ?_
    refine Ops.sk ?_
    refine Ops.sk ?_
    refine Ops.q (q_pickF rfl rfl) ?_
    refine Ops.q (q_asg rfl) ?_
    refine Ops.to rfl ?_
    refine Cd.rt (fn := Try.f74) [.bool false] (by with_reducible repeat (first | exact rq_here | apply rq_then | apply rq_block)) rfl ⟨rfl, trivial⟩ ?_
    intro w' hs
    exact ⟨ebool (by simp; try omega), hs⟩
theorem uwithin_c (a b c : Int) (w : World) : Calls Try.prog 95 [.int .i64 a, .int .i64 b, .int .i64 c].toArray w fun e w' => e = .returned (.bool (decide (b ≤ a ∧ a ≤ c))) ∧ Sat w w' [] := by
  refine fstart Try.func95 rfl rfl (Sat.nil w) ?_
  refine Cd.seq ?_
  refine Cd.region ?_
  refine Ops.q (q_asg rfl) ?_
  refine Ops.to rfl ?_
  refine Cd.seq ?_
  refine Cd.region ?_
  refine Ops.q (q_mv rfl) ?_
  refine Ops.q (q_mv rfl) ?_
  by_cases h1 : b ≤ a
  · refine Ops.q (q_cmp rfl rfl (c_ge h1)) ?_
    refine Ops.q (q_mv rfl) ?_
    refine Ops.q (q_mv rfl) ?_
    refine Ops.q (q_mv rfl) ?_
    by_cases h2 : a ≤ c
    · refine Ops.q (q_cmp rfl rfl (c_le h2)) ?_
      refine Ops.q (q_pickT rfl rfl) ?_
      refine Ops.q (q_asg rfl) ?_
      refine Ops.to rfl ?_
      refine Cd.rt (fn := Try.f95) [.bool true] (by with_reducible repeat (first | exact rq_here | apply rq_then | apply rq_block)) rfl ⟨rfl, trivial⟩ ?_
      intro w' hs
      exact ⟨ebool (by simp; try omega), hs⟩
    · refine Ops.q (q_cmp rfl rfl (c_nle (by omega))) ?_
      refine Ops.q (q_pickT rfl rfl) ?_
      refine Ops.q (q_asg rfl) ?_
      refine Ops.to rfl ?_
      refine Cd.rt (fn := Try.f95) [.bool false] (by with_reducible repeat (first | exact rq_here | apply rq_then | apply rq_block)) rfl ⟨rfl, trivial⟩ ?_
      intro w' hs
      exact ⟨ebool (by simp; try omega), hs⟩
  · refine Ops.q (q_cmp rfl rfl (c_nge (by omega))) ?_
    refine Ops.q (q_mv rfl) ?_
    refine Ops.sk ?_
    refine Ops.sk ?_
    refine Ops.sk ?_
    refine Ops.q (q_pickF rfl rfl) ?_
    refine Ops.q (q_asg rfl) ?_
    refine Ops.to rfl ?_
    refine Cd.rt (fn := Try.f95) [.bool false] (by with_reducible repeat (first | exact rq_here | apply rq_then | apply rq_block)) rfl ⟨rfl, trivial⟩ ?_
    intro w' hs
    exact ⟨ebool (by simp; try omega), hs⟩
theorem gate_c (w : World) : Calls Try.prog 48 [].toArray w fun e w' => e = .returned (.agg (ePrm (gateP 0)).toArray) ∧ Sat w w' [] := by
  refine fstart Try.func48 rfl rfl (Sat.nil w) ?_
  refine Cd.seq ?_
  refine Cd.region ?_
  refine Ops.alc [.int .i64 0, .int .i64 0, .int .i64 0, .int .i64 0, .int .i64 0, .int .i64 0, .int .i64 0, .int .i64 0] zc_116 ?_
  intro b1
  refine Ops.to rfl ?_
  refine Cd.seq ?_
  refine Cd.region ?_
  refine Ops.q (q_bld [.int .i64 2, .int .i64 256, .int .i64 0, .int .i64 0, .int .i64 0, .int .i64 0, .int .i64 0, .int .i64 0] pls_116 zc_116 rfl rfl) ?_
  refine Ops.stB [.int .i64 2, .int .i64 256, .int .i64 0, .int .i64 0, .int .i64 0, .int .i64 0, .int .i64 0, .int .i64 0] [.int .i64 2, .int .i64 256, .int .i64 0, .int .i64 0, .int .i64 0, .int .i64 0, .int .i64 0, .int .i64 0] sz_116 rfl rfl rfl (one rfl) .here rfl rfl ?_
  refine Ops.to rfl ?_
  refine Cd.rt (fn := Try.f48) [.agg [.int .i64 2, .int .i64 256, .int .i64 0, .int .i64 0, .int .i64 0, .int .i64 0, .int .i64 0, .int .i64 0].toArray] (by with_reducible repeat (first | exact rq_here | apply rq_then | apply rq_block)) rfl ⟨⟨_, _, rfl, fun _ hs => run_loadN isA_116 sz_116 (fun o u hu => Sat.atB .here (by rw [Nat.zero_add]; exact hu) hs)⟩, trivial⟩ ?_
  intro w' hs
  exact ⟨rfl, hs.none⟩
theorem once_c (w : World) : Calls Try.prog 60 [].toArray w fun e w' => e = .returned (.agg (ePrm (onceP 0)).toArray) ∧ Sat w w' [] := by
  refine fstart Try.func60 rfl rfl (Sat.nil w) ?_
  refine Cd.seq ?_
  refine Cd.region ?_
  refine Ops.alc [.int .i64 0, .int .i64 0, .int .i64 0, .int .i64 0, .int .i64 0, .int .i64 0, .int .i64 0, .int .i64 0] zc_116 ?_
  intro b1
  refine Ops.to rfl ?_
  refine Cd.seq ?_
  refine Cd.region ?_
  refine Ops.q (q_bld [.int .i64 0, .int .i64 0, .int .i64 0, .int .i64 0, .int .i64 0, .int .i64 0, .int .i64 (-1048576), .int .i64 0] pls_116 zc_116 rfl rfl) ?_
  refine Ops.stB [.int .i64 0, .int .i64 0, .int .i64 0, .int .i64 0, .int .i64 0, .int .i64 0, .int .i64 (-1048576), .int .i64 0] [.int .i64 0, .int .i64 0, .int .i64 0, .int .i64 0, .int .i64 0, .int .i64 0, .int .i64 (-1048576), .int .i64 0] sz_116 rfl rfl rfl (one rfl) .here rfl rfl ?_
  refine Ops.to rfl ?_
  refine Cd.rt (fn := Try.f60) [.agg [.int .i64 0, .int .i64 0, .int .i64 0, .int .i64 0, .int .i64 0, .int .i64 0, .int .i64 (-1048576), .int .i64 0].toArray] (by with_reducible repeat (first | exact rq_here | apply rq_then | apply rq_block)) rfl ⟨⟨_, _, rfl, fun _ hs => run_loadN isA_116 sz_116 (fun o u hu => Sat.atB .here (by rw [Nat.zero_add]; exact hu) hs)⟩, trivial⟩ ?_
  intro w' hs
  exact ⟨rfl, hs.none⟩
theorem adder_c (w : World) : Calls Try.prog 68 [].toArray w fun e w' => e = .returned (.agg (ePrm (adderP 0)).toArray) ∧ Sat w w' [] := by
  refine fstart Try.func68 rfl rfl (Sat.nil w) ?_
  refine Cd.seq ?_
  refine Cd.region ?_
  refine Ops.alc [.int .i64 0, .int .i64 0, .int .i64 0, .int .i64 0, .int .i64 0, .int .i64 0, .int .i64 0, .int .i64 0] zc_116 ?_
  intro b1
  refine Ops.to rfl ?_
  refine Cd.seq ?_
  refine Cd.region ?_
  refine Ops.q (q_bld [.int .i64 0, .int .i64 0, .int .i64 0, .int .i64 0, .int .i64 1, .int .i64 0, .int .i64 0, .int .i64 0] pls_116 zc_116 rfl rfl) ?_
  refine Ops.stB [.int .i64 0, .int .i64 0, .int .i64 0, .int .i64 0, .int .i64 1, .int .i64 0, .int .i64 0, .int .i64 0] [.int .i64 0, .int .i64 0, .int .i64 0, .int .i64 0, .int .i64 1, .int .i64 0, .int .i64 0, .int .i64 0] sz_116 rfl rfl rfl (one rfl) .here rfl rfl ?_
  refine Ops.to rfl ?_
  refine Cd.rt (fn := Try.f68) [.agg [.int .i64 0, .int .i64 0, .int .i64 0, .int .i64 0, .int .i64 1, .int .i64 0, .int .i64 0, .int .i64 0].toArray] (by with_reducible repeat (first | exact rq_here | apply rq_then | apply rq_block)) rfl ⟨⟨_, _, rfl, fun _ hs => run_loadN isA_116 sz_116 (fun o u hu => Sat.atB .here (by rw [Nat.zero_add]; exact hu) hs)⟩, trivial⟩ ?_
  intro w' hs
  exact ⟨rfl, hs.none⟩
theorem at_c (a b : Int) (w : World) : Calls Try.prog 39 [.int .i64 a, .int .i64 b].toArray w fun e w' => e = .returned (.agg (eEvt ⟨a, b⟩).toArray) ∧ Sat w w' [] := by
  refine fstart Try.func39 rfl rfl (Sat.nil w) ?_
  refine Cd.seq ?_
  refine Cd.region ?_
  refine Ops.alc [.int .i64 0, .int .i64 0] zc_88 ?_
  intro b1
  refine Ops.to rfl ?_
  refine Cd.seq ?_
  refine Cd.region ?_
  refine Ops.q (q_mv rfl) ?_
  refine Ops.q (q_mv rfl) ?_
  refine Ops.q (q_bld [.int .i64 a, .int .i64 b] pls_88 zc_88 rfl rfl) ?_
  refine Ops.stB [.int .i64 a, .int .i64 b] [.int .i64 a, .int .i64 b] sz_88 rfl rfl rfl (one rfl) .here rfl rfl ?_
  refine Ops.to rfl ?_
  refine Cd.rt (fn := Try.f39) [.agg [.int .i64 a, .int .i64 b].toArray] (by with_reducible repeat (first | exact rq_here | apply rq_then | apply rq_block)) rfl ⟨⟨_, _, rfl, fun _ hs => run_loadN isA_88 sz_88 (fun o u hu => Sat.atB .here (by rw [Nat.zero_add]; exact hu) hs)⟩, trivial⟩ ?_
  intro w' hs
  exact ⟨rfl, hs.none⟩
theorem join_c (B : Nat) (na : Option Addr) (nc : Nat) (sa : Option Addr) (sc : Nat) (ns : List Prm) (ip : Int) (ss : List Syn) (f t d e : Int) (w0 w : World) (F : List Atom) (hm : ss.length < 10000000)
    (hs : Sat w0 w (bld B na nc sa sc ns ip ss F)) :
    Calls Try.prog 50 [.pointer (some ⟨B, 0, none⟩), .int .i64 f, .int .i64 t, .int .i64 d, .int .i64 e].toArray w fun en w' => ∃ p : Option Addr × Nat, en = .returned (.tuple #[]) ∧
      Sat w0 w' (bld B na nc p.1 p.2 ns ip (ss ++ [⟨f, t, d, e⟩]) F) := by
  refine fstart Try.func50 rfl rfl hs ?_
  refine Cd.region ?_
  refine Ops.q (q_mv rfl) ?_
  refine Ops.q (q_mv rfl) ?_
  refine Ops.q (q_nck rfl) ?_
  refine Ops.q (q_fa fo_114_0 rfl) ?_
  refine Ops.q (q_fa fo_32_2 rfl) ?_
  refine Ops.q (q_ldB isA_30 rfl .here rfl) ?_
  refine Ops.q (q_mv rfl) ?_
  refine Ops.q (q_mv rfl) ?_
  refine Ops.q (q_mv rfl) ?_
  refine Ops.q (q_mv rfl) ?_
  refine Ops.q (q_bld [.int .i64 f, .int .i64 t, .int .i64 d, .int .i64 e] pls_126 zc_126 rfl rfl) ?_
  refine Ops.lit [.int .i64 f, .int .i64 t, .int .i64 d, .int .i64 e] el_30 zsb_126 rfl rfl ⟨by decide, by decide⟩ rfl ?_
  intro b1
  refine Ops.app (news := [.int .i64 f, .int .i64 t, .int .i64 d, .int .i64 e]) el_30 zsb_126 (by decide) rfl rfl (fun _ hs => hs.ownRo .here) (fun _ hs => (hs.pull .here).drop) (fun _ _ => (.there (.there .here))) rfl (one rfl) (by omega) (by omega) ?_
  intro a2 c3
  refine Ops.q (q_nck rfl) ?_
  refine Ops.q (q_fa fo_114_0 rfl) ?_
  refine Ops.q (q_fa fo_32_2 rfl) ?_
  refine Ops.stB [.slice a2 (ss.length + 1) c3] [.slice na ns.length nc, .int .i64 ip, .slice a2 (ss.length + 1) c3] sz_30 rfl rfl rfl (one rfl) .here rfl rfl ?_
  refine Ops.fin rfl rfl ?_
  intro w' hs'
  refine ⟨(a2, c3), rfl, ?_⟩
  rw [bld, List.length_append, fm_app]; exact hs'
end Go.Proofs.Ytilcdghliigngaa
namespace Go.Proofs.YtilcdghliigngaaPm
set_option linter.unusedVariables false
set_option linter.unusedSimpArgs false
def wi (a lo hi : Int) : Prop := lo ≤ a ∧ a ≤ hi
instance (a lo hi : Int) : Decidable (wi a lo hi) := inferInstanceAs (Decidable (_ ∧ _))
def limP (k : Int) : Int := if k = 0 then 0 else if k = 1 then 1048576 else if k = 2 then 256 else 0
def okP (k : Int) : Prop := k = 0 ∨ k = 1 ∨ k = 2
instance (k : Int) : Decidable (okP k) := inferInstanceAs (Decidable (_ ∨ _))
def nCheck (p : Prm) : Int :=
  if okP p.lk ∧ wi p.rk 0 1 then
    if wi p.leak (min 1 (limP p.lk)) (limP p.lk) ∧ wi p.bias (-1048576) 1048576 ∧ wi p.fl (-1048576) 0 ∧ wi p.th 1 1048576 ∧ wi p.rest 0 64 ∧
      wi p.rs (if p.rk = 1 then 0 else p.fl) (if p.rk = 1 then 0 else p.th - 1) then 0 else 3
  else 2
def nValid (p : Prm) (s : Stt) : Int :=
  if nCheck p ≠ 0 then nCheck p else if wi s.v p.fl 1048576 ∧ wi s.rest 0 p.rest then 0 else 3
def leakP (p : Prm) (v : Int) : Int :=
  if p.lk = 0 then v else if p.lk = 1 then (if v < 0 then min 0 (v + p.leak) else max 0 (v - p.leak)) else v - (v * p.leak).tdiv 256
def boundP (v lo hi : Int) : Int := max lo (min hi v)
def tickV (p : Prm) (v i : Int) : Int := boundP (leakP p v + p.bias + boundP i (-4194304) 4194304) p.fl 1048576
def tickP (p : Prm) (s : Stt) (i : Int) : Stt × Bool :=
  if nValid p s ≠ 0 then (⟨0, 0⟩, false)
  else if 0 < s.rest then (⟨s.v, s.rest - 1⟩, false)
  else if tickV p s.v i < p.th then (⟨tickV p s.v i, s.rest⟩, false)
  else if p.rk = 1 then (⟨tickV p s.v i - p.th, p.rest⟩, true)
  else (⟨p.rs, p.rest⟩, true)
end Go.Proofs.YtilcdghliigngaaPm
namespace Go.Proofs.YtilcdghliigngaaPm
theorem nCheck_ok {p : Prm} (h : nCheck p = 0) : okP p.lk ∧ wi p.rk 0 1 ∧ wi p.leak (min 1 (limP p.lk)) (limP p.lk) ∧ wi p.bias (-1048576) 1048576 ∧ wi p.fl (-1048576) 0 ∧ wi p.th 1 1048576 ∧ wi p.rest 0 64 ∧
      wi p.rs (if p.rk = 1 then 0 else p.fl) (if p.rk = 1 then 0 else p.th - 1) := by
  unfold nCheck at h
  grind
theorem nValid_ok {p : Prm} {s : Stt} (h : nValid p s = 0) : nCheck p = 0 ∧ wi s.v p.fl 1048576 ∧ wi s.rest 0 p.rest := by
  unfold nValid at h
  split at h
  · rename_i h1; exact absurd h h1
  · rename_i h1
    split at h
    · rename_i h2; exact ⟨by simpa using h1, h2⟩
    · cases h
theorem boundP_bd (v : Int) {lo hi : Int} (h : lo ≤ hi) : lo ≤ boundP v lo hi ∧ boundP v lo hi ≤ hi := by unfold boundP; omega
theorem leak_lim {p : Prm} (h : okP p.lk) (hl : wi p.leak (min 1 (limP p.lk)) (limP p.lk)) : (p.lk = 0 ∧ p.leak = 0) ∨ (p.lk = 1 ∧ 1 ≤ p.leak ∧ p.leak ≤ 1048576) ∨ (p.lk = 2 ∧ 1 ≤ p.leak ∧ p.leak ≤ 256) := by
  unfold wi limP at hl
  rcases h with h | h | h
  · left; simp [h] at hl; omega
  · right; left; simp [h] at hl; omega
  · right; right; simp [h] at hl; omega
end Go.Proofs.YtilcdghliigngaaPm
namespace Go.Proofs.YtilcdghliigngaaPm
def firstE {α : Type} (f : α → Int) : List α → Int
  | [] => 0
  | x :: xs => if f x = 0 then firstE f xs else f x
def synE (n : Nat) (ip : Int) (s : Syn) : Int := if wi s.src (-ip) ((n : Int) - 1) ∧ wi s.dst 0 ((n : Int) - 1) ∧ wi s.wt (-32768) 32768 ∧ wi s.dl 1 16 then 0 else 3
def netCheck (N : NetP) : Int :=
  if N.ns.length = 0 then 2
  else if 1024 < N.ns.length ∨ 256 < N.inp ∨ 8192 < N.ss.length then 9
  else if N.inp < 0 then 3
  else if firstE nCheck N.ns ≠ 0 then firstE nCheck N.ns
  else firstE (synE N.ns.length N.inp) N.ss
theorem drop_get {α : Type} {xs : List α} {k : Nat} {x : α} (h : xs[k]? = some x) : xs.drop k = x :: xs.drop (k + 1) := by
  obtain ⟨hk, he⟩ := List.getElem?_eq_some_iff.1 h
  rw [List.drop_eq_getElem_cons hk, he]
theorem firstE_step {α : Type} {f : α → Int} {xs : List α} {k : Nat} {x : α} (h : xs[k]? = some x) (hf : f x = 0) : firstE f (xs.drop k) = firstE f (xs.drop (k + 1)) := by
  rw [drop_get h, firstE, if_pos hf]
theorem firstE_stop {α : Type} {f : α → Int} {xs : List α} {k : Nat} {x : α} (h : xs[k]? = some x) (hf : f x ≠ 0) : firstE f (xs.drop k) = f x := by
  rw [drop_get h, firstE, if_neg hf]
theorem firstE_end {α : Type} {f : α → Int} {xs : List α} {k : Nat} (h : xs.length ≤ k) : firstE f (xs.drop k) = 0 := by
  rw [List.drop_eq_nil_of_le h]; rfl
def evBad (ip lim : Int) (e : Evt) : Prop := ¬ (wi e.tick 0 (lim - 1) ∧ wi e.id 0 (ip - 1))
instance (ip lim : Int) (e : Evt) : Decidable (evBad ip lim e) := inferInstanceAs (Decidable (¬ _))
def evNot (q e : Evt) : Prop := e.tick < q.tick ∨ e.tick = q.tick ∧ e.id ≤ q.id
instance (q e : Evt) : Decidable (evNot q e) := inferInstanceAs (Decidable (_ ∨ _))
def ordE (ip lim : Int) : Option Evt → List Evt → Int
  | _, [] => 0
  | none, e :: es => if evBad ip lim e then 3 else ordE ip lim (some e) es
  | some q, e :: es => if evBad ip lim e then 3 else if evNot q e then 2 else ordE ip lim (some e) es
def prevE (es : List Evt) (k : Nat) : Option Evt := if k = 0 then none else es[k - 1]?
def orderedE (ip lim : Int) (es : List Evt) : Int := if 65536 < es.length then 9 else ordE ip lim none es
def preparedE (N : NetP) (es : List Evt) (t lim : Int) : Int :=
  if netCheck N ≠ 0 then netCheck N else if wi t 0 lim then orderedE N.inp lim es else 3
end Go.Proofs.YtilcdghliigngaaPm
namespace Go.Proofs.YtilcdghliigngaaPm
theorem ord_step {ip lim : Int} {es : List Evt} {k : Nat} {x : Evt} (hx : es[k]? = some x) (hb : ¬ evBad ip lim x) (hn : ∀ q, prevE es k = some q → ¬ evNot q x) : ordE ip lim (prevE es k) (es.drop k) = ordE ip lim (prevE es (k + 1)) (es.drop (k + 1)) := by
  have h1 : prevE es (k + 1) = some x := by simpa [prevE] using hx
  rw [drop_get hx, h1]
  cases hp : prevE es k with
  | none => simp [ordE, hb]
  | some q => simp [ordE, hb, hn q hp]
theorem ord_bad {ip lim : Int} {es : List Evt} {k : Nat} {x : Evt} (hx : es[k]? = some x) (hb : evBad ip lim x) : ordE ip lim (prevE es k) (es.drop k) = 3 := by
  rw [drop_get hx]
  cases hp : prevE es k <;> simp [ordE, hb]
theorem ord_not {ip lim : Int} {es : List Evt} {k : Nat} {x q : Evt} (hx : es[k]? = some x) (hb : ¬ evBad ip lim x) (hq : prevE es k = some q) (hn : evNot q x) : ordE ip lim (prevE es k) (es.drop k) = 2 := by
  rw [drop_get hx, hq]; simp [ordE, hb, hn]
theorem ord_end {ip lim : Int} {es : List Evt} {k : Nat} (h : es.length ≤ k) : ordE ip lim (prevE es k) (es.drop k) = 0 := by
  rw [List.drop_eq_nil_of_le h]; cases prevE es k <;> rfl
theorem prevE_pos {es : List Evt} {k : Nat} {q : Evt} (h : 0 < (k : Int)) (hq : es[k - 1]? = some q) : prevE es k = some q := by
  unfold prevE; rw [if_neg (by omega)]; exact hq
theorem prevE_zero {es : List Evt} {k : Nat} (h : ¬ 0 < (k : Int)) : prevE es k = none := by
  unfold prevE; rw [if_pos (by omega)]
end Go.Proofs.YtilcdghliigngaaPm
namespace Go.Proofs.YtilcdghliigngaaPm
theorem takeWhile_eq {α : Type} {p : α → Bool} {xs : List α} {k : Nat} (h1 : ∀ x ∈ xs.take k, p x = true) (h2 : ∀ x, xs[k]? = some x → p x = false) : xs.takeWhile p = xs.take k ∧ xs.dropWhile p = xs.drop k := by
  induction xs generalizing k with
  | nil => simp
  | cons a xs ih =>
    cases k with
    | zero =>
      have := h2 a (by simp)
      simp [this]
    | succ k =>
      have ha := h1 a (by simp)
      have := ih (k := k) (fun x hx => h1 x (by simp [hx])) (fun x hx => h2 x (by simpa using hx))
      simp [ha, this.1, this.2]
end Go.Proofs.YtilcdghliigngaaPm
namespace Go.Proofs.YtilcdghliigngaaPm
def tickAll : List Prm → List Stt → List Int → List (Stt × Bool)
  | p :: ps, s :: ss, x :: xs => tickP p s x :: tickAll ps ss xs
  | _, _, _ => []
def fireI (i : Nat) : List (Stt × Bool) → List Int
  | [] => []
  | t :: ts => if t.2 then (i : Int) :: fireI (i + 1) ts else fireI (i + 1) ts
theorem tickAll_get : ∀ {ns : List Prm} {ss : List Stt} {xs : List Int} {k : Nat} {p : Prm} {s : Stt} {x : Int}, ns[k]? = some p → ss[k]? = some s → xs[k]? = some x → (tickAll ns ss xs)[k]? = some (tickP p s x)
  | [], _, _, k, p, s, x, h, _, _ => by simp at h
  | _ :: _, [], _, k, p, s, x, _, h, _ => by simp at h
  | _ :: _, _ :: _, [], k, p, s, x, _, _, h => by simp at h
  | p' :: ns, s' :: ss, x' :: xs, 0, p, s, x, h1, h2, h3 => by
    simp only [List.getElem?_cons_zero, Option.some.injEq] at h1 h2 h3
    subst h1; subst h2; subst h3; rfl
  | p' :: ns, s' :: ss, x' :: xs, k + 1, p, s, x, h1, h2, h3 => by
    simp only [List.getElem?_cons_succ] at h1 h2 h3
    simpa [tickAll] using tickAll_get h1 h2 h3
theorem tickAll_length : ∀ {ns : List Prm} {ss : List Stt} {xs : List Int}, ss.length = ns.length → xs.length = ns.length → (tickAll ns ss xs).length = ns.length
  | [], [], [], _, _ => rfl
  | p :: ns, s :: ss, x :: xs, h1, h2 => by
    simp only [tickAll, List.length_cons] at *
    rw [tickAll_length (by omega) (by omega)]
theorem fireI_app : ∀ (ts : List (Stt × Bool)) (i : Nat) (t : Stt × Bool), fireI i (ts ++ [t]) = fireI i ts ++ (if t.2 then [((i + ts.length : Nat) : Int)] else [])
  | [], i, t => by cases h : t.2 <;> simp [fireI, h]
  | a :: ts, i, t => by
    simp only [List.cons_append, fireI, fireI_app ts (i + 1) t, List.length_cons]
    rw [show i + 1 + ts.length = i + (ts.length + 1) by omega]
    split <;> simp
theorem fireI_take {T : List (Stt × Bool)} {k : Nat} {t : Stt × Bool} (h : T[k]? = some t) : fireI 0 (T.take (k + 1)) = fireI 0 (T.take k) ++ (if t.2 then [(k : Int)] else []) := by
  have hk := (List.getElem?_eq_some_iff.1 h).1
  rw [List.take_add_one, h]
  show fireI 0 (T.take k ++ [t]) = _
  rw [fireI_app, List.length_take, Nat.zero_add, Nat.min_eq_left (by omega)]
theorem fireI_len : ∀ (ts : List (Stt × Bool)) (i : Nat), (fireI i ts).length ≤ ts.length
  | [], _ => by simp [fireI]
  | t :: ts, i => by
    have := fireI_len ts (i + 1)
    simp only [fireI]; split <;> simp <;> omega
def midS (T : List (Stt × Bool)) (sts : List Stt) (k : Nat) : List Stt := (T.take k).map (·.1) ++ sts.drop k
theorem midS_len {T : List (Stt × Bool)} {sts : List Stt} {k : Nat} (h : T.length = sts.length) (hk : k ≤ sts.length) : (midS T sts k).length = sts.length := by
  simp [midS]; omega
theorem midS_get {T : List (Stt × Bool)} {sts : List Stt} {k : Nat} (h : T.length = sts.length) (hk : k ≤ sts.length) : (midS T sts k)[k]? = sts[k]? := by
  have e : ((T.take k).map (·.1)).length = k := by simp; omega
  rw [midS, List.getElem?_append_right (by omega), e, Nat.sub_self, List.getElem?_drop]; rfl
theorem midS_set {T : List (Stt × Bool)} {sts : List Stt} {k : Nat} {t : Stt × Bool} (ht : T[k]? = some t) (h : T.length = sts.length) : (midS T sts k).set k t.1 = midS T sts (k + 1) := by
  have hk := (List.getElem?_eq_some_iff.1 ht).1
  have e : ((T.take k).map (·.1)).length = k := by simp; omega
  obtain ⟨s, hs⟩ : ∃ s, sts[k]? = some s := ⟨_, List.getElem?_eq_getElem (by omega)⟩
  rw [midS, midS, List.set_append_right _ _ (by omega), e, Nat.sub_self, drop_get hs, List.take_add_one, ht]
  simp
end Go.Proofs.YtilcdghliigngaaPm
namespace Go.Proofs.YtilcdghliigngaaPm
theorem firstE_zero {α : Type} {f : α → Int} : ∀ {xs : List α}, firstE f xs = 0 → ∀ x ∈ xs, f x = 0
  | [], _, x, h => by cases h
  | y :: ys, h, x, hx => by
    by_cases hy : f y = 0
    · rw [firstE, if_pos hy] at h
      rcases List.mem_cons.1 hx with rfl | hx
      · exact hy
      · exact firstE_zero h x hx
    · rw [firstE, if_neg hy] at h; exact absurd h hy
theorem ordE_zero {ip lim : Int} : ∀ {es : List Evt} {p : Option Evt}, ordE ip lim p es = 0 → ∀ e ∈ es, ¬ evBad ip lim e
  | [], _, _, e, h => by cases h
  | x :: xs, p, h, e, he => by
    cases p with
    | none =>
      simp only [ordE] at h
      split at h
      · cases h
      · rename_i hb
        rcases List.mem_cons.1 he with rfl | he
        · exact hb
        · exact ordE_zero h e he
    | some q =>
      simp only [ordE] at h
      split at h
      · cases h
      · rename_i hb
        split at h
        · cases h
        · rcases List.mem_cons.1 he with rfl | he
          · exact hb
          · exact ordE_zero h e he
theorem netCheck_ok {ns : List Prm} {ip : Int} {ss : List Syn} (h : netCheck ⟨ns, ip, ss⟩ = 0) : 0 < ns.length ∧ ns.length ≤ 1024 ∧ ss.length ≤ 8192 ∧ 0 ≤ ip ∧ ip ≤ 256 ∧ (∀ p ∈ ns, nCheck p = 0) ∧ ∀ s ∈ ss, synE ns.length ip s = 0 := by
  unfold netCheck at h
  simp only [] at h
  split at h
  · cases h
  · split at h
    · cases h
    · split at h
      · cases h
      · split at h
        · rename_i h1; exact absurd h h1
        · rename_i h1 h2 h3 h4
          exact ⟨by omega, by omega, by omega, by omega, by omega, firstE_zero (by simpa using h4), firstE_zero h⟩
theorem synE_ok {n : Nat} {ip : Int} {s : Syn} (h : synE n ip s = 0) : wi s.src (-ip) ((n : Int) - 1) ∧ wi s.dst 0 ((n : Int) - 1) ∧ wi s.wt (-32768) 32768 ∧ wi s.dl 1 16 := by
  unfold synE at h; split at h
  · assumption
  · cases h
theorem prepared_ok {ns : List Prm} {ip : Int} {ss : List Syn} {evs : List Evt} {t lim : Int} (h : preparedE ⟨ns, ip, ss⟩ evs t lim = 0) : netCheck ⟨ns, ip, ss⟩ = 0 ∧ wi t 0 lim ∧ evs.length ≤ 65536 ∧ ∀ e ∈ evs, wi e.tick 0 (lim - 1) ∧ wi e.id 0 (ip - 1) := by
  unfold preparedE at h
  split at h
  · rename_i h1; exact absurd h h1
  · rename_i h1
    split at h
    · rename_i h2
      unfold orderedE at h
      split at h
      · cases h
      · rename_i h3
        refine ⟨by simpa using h1, h2, by omega, fun e he => ?_⟩
        have := ordE_zero h e he
        unfold evBad at this
        exact Decidable.of_not_not this
    · cases h
end Go.Proofs.YtilcdghliigngaaPm
namespace Go.Proofs.Ytilcdghliigngaa
open Go.RowKit Go.Proofs.YtilcdghliigngaaGl Go.Proofs.YtilcdghliigngaaPm
set_option linter.unusedVariables false
set_option linter.unusedSimpArgs false
theorem dT {k : FuncId} {vs : Array Value} {w : World} {p : Prop} [Decidable p] (hc : Calls Try.prog k vs w fun e w' => e = .returned (.bool (decide p)) ∧ Sat w w' []) (h : p) : Calls Try.prog k vs w fun e w' => e = .returned (.bool true) ∧ Sat w w' [] := by
  rwa [decide_eq_true h] at hc
theorem dF {k : FuncId} {vs : Array Value} {w : World} {p : Prop} [Decidable p] (hc : Calls Try.prog k vs w fun e w' => e = .returned (.bool (decide p)) ∧ Sat w w' []) (h : ¬ p) : Calls Try.prog k vs w fun e w' => e = .returned (.bool false) ∧ Sat w w' [] := by
  rwa [decide_eq_false h] at hc
def fnK (k : Int) : Nat := if k = 0 then 112 else if k = 1 then 113 else 114
theorem leak1_c (p : Prm) (v : Int) (w : World) : Calls Try.prog 112 [.agg (ePrm p).toArray, .int .i64 v].toArray w fun e w' => e = .returned (.int .i64 v) ∧ Sat w w' [] := by
  refine fstart Try.func112 rfl rfl (Sat.nil w) ?_
  refine Cd.seq ?_
  refine Cd.region ?_
  refine Ops.box [.int .i64 p.lk, .int .i64 p.leak, .int .i64 p.bias, .int .i64 p.th, .int .i64 p.rk, .int .i64 p.rs, .int .i64 p.fl, .int .i64 p.rest] rfl rfl ?_
  intro b1
  refine Ops.q (q_asg rfl) ?_
  refine Ops.to rfl ?_
  refine Cd.seq ?_
  refine Cd.region ?_
  refine Ops.q (q_mv rfl) ?_
  refine Ops.q (q_asg rfl) ?_
  refine Ops.to rfl ?_
  refine Cd.rt (fn := Try.f112) [.int .i64 v] (by with_reducible repeat (first | exact rq_here | apply rq_then | apply rq_block)) rfl ⟨rfl, trivial⟩ ?_
  intro w' hs
  exact ⟨rfl, hs.none⟩
theorem leak2_c (p : Prm) (v : Int) (w : World) (hv : wi v (-1048576) 1048576) (hl : wi p.leak 0 1048576) : Calls Try.prog 113 [.agg (ePrm p).toArray, .int .i64 v].toArray w fun e w' => e = .returned (.int .i64 (if v < 0 then min 0 (v + p.leak) else max 0 (v - p.leak))) ∧ Sat w w' [] := by
  unfold wi at hv hl
  refine fstart Try.func113 rfl rfl (Sat.nil w) ?_
  refine Cd.seq ?_
  refine Cd.region ?_
  refine Ops.box [.int .i64 p.lk, .int .i64 p.leak, .int .i64 p.bias, .int .i64 p.th, .int .i64 p.rk, .int .i64 p.rs, .int .i64 p.fl, .int .i64 p.rest] rfl rfl ?_
  intro b1
  refine Ops.q (q_asg rfl) ?_
  refine Ops.to rfl ?_
  refine Cd.seq ?_
  refine Cd.seq ?_
  refine Cd.region ?_
  refine Ops.q (q_mv rfl) ?_
  by_cases h2 : v < 0
  · refine Ops.q (q_cmp rfl rfl (c_lt h2)) ?_
    refine Ops.to rfl ?_
    refine Cd.cond_t rfl ?_
    refine Cd.seq ?_
    refine Cd.region ?_
    refine Ops.q (q_mv rfl) ?_
    refine Ops.q (q_fa fo_116_1 rfl) ?_
    refine Ops.q (q_ldB isA_3 rfl .here rfl) ?_
    refine Ops.q (q_ar rfl rfl (a_add (by omega))) ?_
    refine Ops.q (q_min rfl rfl) ?_
    refine Ops.q (q_asg rfl) ?_
    refine Ops.to rfl ?_
    refine Cd.rt (fn := Try.f113) [.int .i64 (min 0 (v + p.leak))] (by with_reducible repeat (first | exact rq_here | apply rq_then | apply rq_block)) rfl ⟨rfl, trivial⟩ ?_
    intro w' hs
    exact ⟨by simp [joinV]; omega, hs.none⟩
  · refine Ops.q (q_cmp rfl rfl (c_nlt (by omega))) ?_
    refine Ops.to rfl ?_
    refine Cd.cond_f rfl ?_
    refine Cd.skipTo rfl ?_
    refine Cd.seq ?_
    refine Cd.region ?_
    refine Ops.q (q_mv rfl) ?_
    refine Ops.q (q_fa fo_116_1 rfl) ?_
    refine Ops.q (q_ldB isA_3 rfl .here rfl) ?_
    refine Ops.q (q_ar rfl rfl (a_sub (by omega))) ?_
    refine Ops.q (q_max rfl rfl) ?_
    refine Ops.q (q_asg rfl) ?_
    refine Ops.to rfl ?_
    refine Cd.rt (fn := Try.f113) [.int .i64 (max 0 (v - p.leak))] (by with_reducible repeat (first | exact rq_here | apply rq_then | apply rq_block)) rfl ⟨rfl, trivial⟩ ?_
    intro w' hs
    exact ⟨by simp [joinV]; omega, hs.none⟩
theorem a_quoT {i j : Int} (hj : j ≠ 0) (h : -9223372036854775808 ≤ i.tdiv j ∧ i.tdiv j ≤ 9223372036854775807) : arV .quo .i64 i j = some (i.tdiv j) := by
  simp only [arV, if_neg hj, IntWalk.i64_in _ h]
theorem tdiv256 {x : Int} (h : -536870912 ≤ x ∧ x ≤ 536870912) : -2097152 ≤ x.tdiv 256 ∧ x.tdiv 256 ≤ 2097152 := by
  rcases Int.le_total 0 x with h0 | h0
  · rw [Int.tdiv_eq_ediv_of_nonneg h0]; omega
  · have : x = -(-x) := by omega
    rw [this, Int.neg_tdiv, Int.tdiv_eq_ediv_of_nonneg (by omega)]; omega
theorem mul_box {v l : Int} (hv : -1048576 ≤ v ∧ v ≤ 1048576) (hl : 0 ≤ l ∧ l ≤ 256) : -536870912 ≤ v * l ∧ v * l ≤ 536870912 := by
  have h1 : (1048576 - v) * l ≥ 0 := Int.mul_nonneg (by omega) hl.1
  have h2 : (v + 1048576) * l ≥ 0 := Int.mul_nonneg (by omega) hl.1
  rw [Int.sub_mul] at h1
  rw [Int.add_mul] at h2
  omega
theorem leak3_c (p : Prm) (v : Int) (w : World) (hv : wi v (-1048576) 1048576) (hl : wi p.leak 0 256) : Calls Try.prog 114 [.agg (ePrm p).toArray, .int .i64 v].toArray w fun e w' => e = .returned (.int .i64 (v - (v * p.leak).tdiv 256)) ∧ Sat w w' [] := by
  unfold wi at hv hl
  have hm : -536870912 ≤ v * p.leak ∧ v * p.leak ≤ 536870912 := mul_box hv hl
  have hd := tdiv256 hm
  refine fstart Try.func114 rfl rfl (Sat.nil w) ?_
  refine Cd.seq ?_
  refine Cd.region ?_
  refine Ops.box [.int .i64 p.lk, .int .i64 p.leak, .int .i64 p.bias, .int .i64 p.th, .int .i64 p.rk, .int .i64 p.rs, .int .i64 p.fl, .int .i64 p.rest] rfl rfl ?_
  intro b1
  refine Ops.q (q_asg rfl) ?_
  refine Ops.to rfl ?_
  refine Cd.seq ?_
  refine Cd.region ?_
  refine Ops.q (q_mv rfl) ?_
  refine Ops.q (q_mv rfl) ?_
  refine Ops.q (q_fa fo_116_1 rfl) ?_
  refine Ops.q (q_ldB isA_3 rfl .here rfl) ?_
  refine Ops.q (q_ar rfl rfl (a_mul ⟨by omega, by omega⟩)) ?_
  refine Ops.q (q_ar rfl rfl (a_quoT (by decide) ⟨by omega, by omega⟩)) ?_
  refine Ops.q (q_ar rfl rfl (a_sub ⟨by omega, by omega⟩)) ?_
  refine Ops.q (q_asg rfl) ?_
  refine Ops.to rfl ?_
  refine Cd.rt (fn := Try.f114) [.int .i64 (v - (v * p.leak).tdiv 256)] (by with_reducible repeat (first | exact rq_here | apply rq_then | apply rq_block)) rfl ⟨rfl, trivial⟩ ?_
  intro w' hs
  exact ⟨rfl, hs.none⟩
theorem leaks_t {k : Int} (w : World) (h : okP k) : Calls Try.prog 94 [.int .i64 k].toArray w fun e w' => e = .returned (.tuple [.agg [.int .i64 (limP k), .func (.func (fnK k)) #[] #[]].toArray, .bool true].toArray) ∧ Sat w w' [] := by
  refine fstart Try.func94 rfl rfl (Sat.nil w) ?_
  refine Cd.seq ?_
  refine Cd.region ?_
  refine Ops.alc [.int .i64 0, .nilFunc] zc_170 ?_
  intro b1
  refine Ops.q (q_asg rfl) ?_
  refine Ops.to rfl ?_
  refine Cd.seq ?_
  refine Cd.seq ?_
  refine Cd.region ?_
  refine Ops.q (q_mv rfl) ?_
  refine Ops.to rfl ?_
  refine Cd.block ?_
  refine Cd.seq ?_
  refine Cd.region ?_
  by_cases h2 : k = 0
  · refine Ops.q (q_cmp rfl rfl (c_eq h2)) ?_
    refine Ops.q (q_asg rfl) ?_
    refine Ops.to rfl ?_
    refine Cd.cond_t rfl ?_
    refine Cd.seq ?_
    refine Cd.region ?_
    refine Ops.q (q_bld [.int .i64 0, .func (.func 112) [].toArray [].toArray] pls_170 zc_170 rfl rfl) ?_
    refine Ops.stB [.int .i64 0, .func (.func 112) [].toArray [].toArray] [.int .i64 0, .func (.func 112) [].toArray [].toArray] sz_170 rfl rfl rfl (one rfl) .here rfl rfl ?_
    refine Ops.q (q_asg rfl) ?_
    refine Ops.to rfl ?_
    refine Cd.rt (fn := Try.f94) [.agg [.int .i64 0, .func (.func 112) [].toArray [].toArray].toArray, .bool true] (by with_reducible repeat (first | exact rq_here | apply rq_then | apply rq_block)) rfl ⟨⟨_, _, rfl, fun _ hs => run_loadN isA_170 sz_170 (fun o u hu => Sat.atB .here (by rw [Nat.zero_add]; exact hu) hs)⟩, rfl, trivial⟩ ?_
    intro w' hs
    exact ⟨by simp [joinV, fnK, limP, *], hs.none⟩
  · refine Ops.q (q_cmp rfl rfl (c_neq h2)) ?_
    refine Ops.q (q_asg rfl) ?_
    refine Ops.to rfl ?_
    refine Cd.cond_f rfl ?_
    refine Cd.seq ?_
    refine Cd.region ?_
    by_cases h3 : k = 1
    · refine Ops.q (q_cmp rfl rfl (c_eq h3)) ?_
      refine Ops.q (q_asg rfl) ?_
      refine Ops.to rfl ?_
      refine Cd.cond_t rfl ?_
      refine Cd.seq ?_
      refine Cd.region ?_
      refine Ops.q (q_bld [.int .i64 1048576, .func (.func 113) [].toArray [].toArray] pls_170 zc_170 rfl rfl) ?_
      refine Ops.stB [.int .i64 1048576, .func (.func 113) [].toArray [].toArray] [.int .i64 1048576, .func (.func 113) [].toArray [].toArray] sz_170 rfl rfl rfl (one rfl) .here rfl rfl ?_
      refine Ops.q (q_asg rfl) ?_
      refine Ops.to rfl ?_
      refine Cd.rt (fn := Try.f94) [.agg [.int .i64 1048576, .func (.func 113) [].toArray [].toArray].toArray, .bool true] (by with_reducible repeat (first | exact rq_here | apply rq_then | apply rq_block)) rfl ⟨⟨_, _, rfl, fun _ hs => run_loadN isA_170 sz_170 (fun o u hu => Sat.atB .here (by rw [Nat.zero_add]; exact hu) hs)⟩, rfl, trivial⟩ ?_
      intro w' hs
      exact ⟨by simp [joinV, fnK, limP, *], hs.none⟩
    · refine Ops.q (q_cmp rfl rfl (c_neq h3)) ?_
      refine Ops.q (q_asg rfl) ?_
      refine Ops.to rfl ?_
      refine Cd.cond_f rfl ?_
      refine Cd.seq ?_
      refine Cd.region ?_
      by_cases h9 : k = 2
      · refine Ops.q (q_cmp rfl rfl (c_eq h9)) ?_
        refine Ops.q (q_asg rfl) ?_
        refine Ops.to rfl ?_
        refine Cd.cond_t rfl ?_
        refine Cd.seq ?_
        refine Cd.region ?_
        refine Ops.q (q_bld [.int .i64 256, .func (.func 114) [].toArray [].toArray] pls_170 zc_170 rfl rfl) ?_
        refine Ops.stB [.int .i64 256, .func (.func 114) [].toArray [].toArray] [.int .i64 256, .func (.func 114) [].toArray [].toArray] sz_170 rfl rfl rfl (one rfl) .here rfl rfl ?_
        refine Ops.q (q_asg rfl) ?_
        refine Ops.to rfl ?_
        refine Cd.rt (fn := Try.f94) [.agg [.int .i64 256, .func (.func 114) [].toArray [].toArray].toArray, .bool true] (by with_reducible repeat (first | exact rq_here | apply rq_then | apply rq_block)) rfl ⟨⟨_, _, rfl, fun _ hs => run_loadN isA_170 sz_170 (fun o u hu => Sat.atB .here (by rw [Nat.zero_add]; exact hu) hs)⟩, rfl, trivial⟩ ?_
        intro w' hs
        exact ⟨by simp [joinV, fnK, limP, *], hs.none⟩
      · unfold okP at h; omega
theorem leaks_f {k : Int} (w : World) (h : ¬ okP k) : Calls Try.prog 94 [.int .i64 k].toArray w fun e w' => e = .returned (.tuple [.agg [.int .i64 (limP k), .nilFunc].toArray, .bool false].toArray) ∧ Sat w w' [] := by
  have h0 : ¬ k = 0 ∧ ¬ k = 1 ∧ ¬ k = 2 := by unfold okP at h; omega
  obtain ⟨h01, h02, h03⟩ := h0
  refine fstart Try.func94 rfl rfl (Sat.nil w) ?_
  refine Cd.seq ?_
  refine Cd.region ?_
  refine Ops.alc [.int .i64 0, .nilFunc] zc_170 ?_
  intro b1
  refine Ops.q (q_asg rfl) ?_
  refine Ops.to rfl ?_
  refine Cd.seq ?_
  refine Cd.seq ?_
  refine Cd.region ?_
  refine Ops.q (q_mv rfl) ?_
  refine Ops.to rfl ?_
  refine Cd.block ?_
  refine Cd.seq ?_
  refine Cd.region ?_
  refine Ops.q (q_cmp rfl rfl (c_neq (fun e => h (.inl e)))) ?_
  refine Ops.q (q_asg rfl) ?_
  refine Ops.to rfl ?_
  refine Cd.cond_f rfl ?_
  refine Cd.seq ?_
  refine Cd.region ?_
  refine Ops.q (q_cmp rfl rfl (c_neq (fun e => h (.inr (.inl e))))) ?_
  refine Ops.q (q_asg rfl) ?_
  refine Ops.to rfl ?_
  refine Cd.cond_f rfl ?_
  refine Cd.seq ?_
  refine Cd.region ?_
  refine Ops.q (q_cmp rfl rfl (c_neq (fun e => h (.inr (.inr e))))) ?_
  refine Ops.q (q_asg rfl) ?_
  refine Ops.to rfl ?_
  refine Cd.cond_f rfl ?_
  refine Cd.skipTo rfl ?_
  refine Cd.seq ?_
  refine Cd.region ?_
  refine Ops.q (q_bld [.int .i64 0, .nilFunc] pls_170 zc_170 rfl rfl) ?_
  refine Ops.stB [.int .i64 0, .nilFunc] [.int .i64 0, .nilFunc] sz_170 rfl rfl rfl (one rfl) .here rfl rfl ?_
  refine Ops.q (q_asg rfl) ?_
  refine Ops.to rfl ?_
  refine Cd.rt (fn := Try.f94) [.agg [.int .i64 0, .nilFunc].toArray, .bool false] (by with_reducible repeat (first | exact rq_here | apply rq_then | apply rq_block)) rfl ⟨⟨_, _, rfl, fun _ hs => run_loadN isA_170 sz_170 (fun o u hu => Sat.atB .here (by rw [Nat.zero_add]; exact hu) hs)⟩, rfl, trivial⟩ ?_
  intro w' hs
  exact ⟨by simp [joinV, limP, *], hs.none⟩
theorem ncheck_c (p : Prm) (w : World) : Calls Try.prog 72 [.agg (ePrm p).toArray].toArray w fun e w' => e = .returned (.int .i64 (nCheck p)) ∧ Sat w w' [] := by
  have hw : 1 ≤ p.th ∧ p.th ≤ 1048576 → IntKind.i64.wrap (p.th - 1) = p.th - 1 := fun h => IntWalk.i64_in _ (by omega)
  refine fstart Try.func72 rfl rfl (Sat.nil w) ?_
  refine Cd.seq ?_
  refine Cd.region ?_
  refine Ops.box [.int .i64 p.lk, .int .i64 p.leak, .int .i64 p.bias, .int .i64 p.th, .int .i64 p.rk, .int .i64 p.rs, .int .i64 p.fl, .int .i64 p.rest] rfl rfl ?_
  intro b1
  refine Ops.q (q_asg rfl) ?_
  refine Ops.to rfl ?_
  refine Cd.seq ?_
  refine Cd.region ?_
  refine Ops.q (q_fa fo_116_0 rfl) ?_
  refine Ops.q (q_ldB isA_3 rfl .here rfl) ?_
  by_cases h2 : okP p.lk
  · refine Ops.cp en_94 rfl (fun w hs => leaks_t w h2) ?_
    refine Ops.q (q_mv rfl) ?_
    refine Ops.q (q_ext rfl rfl) ?_
    refine Ops.q (q_ext rfl rfl) ?_
    refine Ops.alc [.int .i64 0, .nilFunc] zc_170 ?_
    intro b3
    refine Ops.stB [.int .i64 (limP p.lk), .func (.func (fnK p.lk)) #[] #[]] [.int .i64 (limP p.lk), .func (.func (fnK p.lk)) #[] #[]] sz_170 rfl rfl rfl (one rfl) .here rfl rfl ?_
    refine Ops.q (q_asg rfl) ?_
    refine Ops.to rfl ?_
    refine Cd.seq ?_
    refine Cd.seq ?_
    refine Cd.region ?_
    refine Ops.q (q_mv rfl) ?_
    refine Ops.q (q_not rfl) ?_
    refine Ops.q (q_mv rfl) ?_
    refine Ops.q (q_fa fo_116_4 rfl) ?_
    refine Ops.q (q_ldB isA_3 rfl (.there .here) rfl) ?_
    by_cases h4 : wi p.rk 0 1
    · refine Ops.cp en_95 rfl (fun w hs => dT (uwithin_c _ _ _ w) h4) ?_
      refine Ops.q (q_not rfl) ?_
      refine Ops.q (q_pickF rfl rfl) ?_
      refine Ops.to rfl ?_
      refine Cd.cond_f rfl ?_
      refine Cd.skipTo rfl ?_
      refine Cd.seq ?_
      refine Cd.draw rfl (by kernel_rfl) (.cons (.there .here) .nil) ?_
      intro F5 St6 hP7 hF8 hR9
      refine Dr.q (i := 0) hP7 rfl (by kernel_rfl) (q_fa fo_116_6 rfl) ?_
      refine Dr.q (i := 1) hP7 rfl (by kernel_rfl) (q_ldB isA_3 rfl .here rfl) ?_
      refine Dr.q (i := 2) hP7 rfl (by kernel_rfl) (q_fa fo_116_3 rfl) ?_
      refine Dr.q (i := 3) hP7 rfl (by kernel_rfl) (q_ldB isA_3 rfl .here rfl) ?_
      refine Dr.q (i := 4) hP7 rfl (by kernel_rfl) (q_ar rfl rfl (rfl)) ?_
      refine Dr.q (i := 5) hP7 rfl (by kernel_rfl) (q_asg rfl) ?_
      refine Dr.tail 6 (by kernel_rfl) ?_
      refine Ops.sat ?_ (fun _ hs => hR9 .here hs)
      refine Ops.q (q_asg rfl) ?_
      refine Ops.to rfl ?_
      refine Cd.seq ?_
      refine Cd.seq ?_
      refine Cd.region ?_
      refine Ops.q (q_fa fo_116_4 rfl) ?_
      refine Ops.q (q_ldB isA_3 rfl .here rfl) ?_
      by_cases h10 : p.rk = 1
      · refine Ops.q (q_cmp rfl rfl (c_eq h10)) ?_
        refine Ops.to rfl ?_
        refine Cd.cond_t rfl ?_
        refine Cd.region ?_
        refine Ops.q (q_asg rfl) ?_
        refine Ops.q (q_asg rfl) ?_
        refine Ops.to rfl ?_
        refine Cd.seq ?_
        refine Cd.seq ?_
        refine Cd.region ?_
        refine Ops.q (q_fa fo_116_1 rfl) ?_
        refine Ops.q (q_ldB isA_3 rfl .here rfl) ?_
        refine Ops.q (q_fa fo_170_0 rfl) ?_
        refine Ops.q (q_ldB isA_3 rfl (.there .here) rfl) ?_
        refine Ops.q (q_min rfl rfl) ?_
        refine Ops.q (q_fa fo_170_0 rfl) ?_
        refine Ops.q (q_ldB isA_3 rfl (.there .here) rfl) ?_
        by_cases h11 : wi p.leak (min 1 (limP p.lk)) (limP p.lk)
        · refine Ops.cp en_95 rfl (fun w hs => dT (uwithin_c _ _ _ w) h11) ?_
          refine Ops.q (q_not rfl) ?_
          refine Ops.q (q_mv rfl) ?_
          refine Ops.q (q_fa fo_116_2 rfl) ?_
          refine Ops.q (q_ldB isA_3 rfl .here rfl) ?_
          by_cases h12 : wi p.bias (-1048576) 1048576
          · refine Ops.cp en_95 rfl (fun w hs => dT (uwithin_c _ _ _ w) h12) ?_
            refine Ops.q (q_not rfl) ?_
            refine Ops.q (q_pickF rfl rfl) ?_
            refine Ops.q (q_mv rfl) ?_
            refine Ops.q (q_fa fo_116_6 rfl) ?_
            refine Ops.q (q_ldB isA_3 rfl .here rfl) ?_
            by_cases h13 : wi p.fl (-1048576) 0
            · refine Ops.cp en_95 rfl (fun w hs => dT (uwithin_c _ _ _ w) h13) ?_
              refine Ops.q (q_not rfl) ?_
              refine Ops.q (q_pickF rfl rfl) ?_
              refine Ops.q (q_mv rfl) ?_
              refine Ops.q (q_fa fo_116_3 rfl) ?_
              refine Ops.q (q_ldB isA_3 rfl .here rfl) ?_
              by_cases h14 : wi p.th 1 1048576
              · refine Ops.cp en_95 rfl (fun w hs => dT (uwithin_c _ _ _ w) h14) ?_
                refine Ops.q (q_not rfl) ?_
                refine Ops.q (q_pickF rfl rfl) ?_
                refine Ops.q (q_mv rfl) ?_
                refine Ops.q (q_fa fo_116_7 rfl) ?_
                refine Ops.q (q_ldB isA_3 rfl .here rfl) ?_
                by_cases h15 : wi p.rest 0 64
                · refine Ops.cp en_95 rfl (fun w hs => dT (uwithin_c _ _ _ w) h15) ?_
                  refine Ops.q (q_not rfl) ?_
                  refine Ops.q (q_pickF rfl rfl) ?_
                  refine Ops.q (q_mv rfl) ?_
                  refine Ops.q (q_fa fo_116_5 rfl) ?_
                  refine Ops.q (q_ldB isA_3 rfl .here rfl) ?_
                  refine Ops.q (q_mv rfl) ?_
                  refine Ops.q (q_mv rfl) ?_
                  by_cases h16 : wi p.rs 0 0
                  · refine Ops.cp en_95 rfl (fun w hs => dT (uwithin_c _ _ _ w) h16) ?_
                    refine Ops.q (q_not rfl) ?_
                    refine Ops.q (q_pickF rfl rfl) ?_
                    refine Ops.to rfl ?_
                    refine Cd.cond_f rfl ?_
                    refine Cd.skipTo rfl ?_
                    refine Cd.seq ?_
                    refine Cd.region ?_
                    refine Ops.q (q_asg rfl) ?_
                    refine Ops.to rfl ?_
                    refine Cd.rt (fn := Try.f72) [.int .i64 0] (by with_reducible repeat (first | exact rq_here | apply rq_then | apply rq_block)) rfl ⟨rfl, trivial⟩ ?_
                    intro w' hs
                    exact ⟨by unfold nCheck; simp only [joinV]; unfold wi at *; grind, hs.none⟩
                  · refine Ops.cp en_95 rfl (fun w hs => dF (uwithin_c _ _ _ w) h16) ?_
                    refine Ops.q (q_not rfl) ?_
                    refine Ops.q (q_pickF rfl rfl) ?_
                    refine Ops.to rfl ?_
                    refine Cd.cond_t rfl ?_
                    refine Cd.seq ?_
                    refine Cd.region ?_
                    refine Ops.q (q_asg rfl) ?_
                    refine Ops.to rfl ?_
                    refine Cd.rt (fn := Try.f72) [.int .i64 3] (by with_reducible repeat (first | exact rq_here | apply rq_then | apply rq_block)) rfl ⟨rfl, trivial⟩ ?_
                    intro w' hs
                    exact ⟨by unfold nCheck; simp only [joinV]; unfold wi at *; grind, hs.none⟩
                · refine Ops.cp en_95 rfl (fun w hs => dF (uwithin_c _ _ _ w) h15) ?_
                  refine Ops.q (q_not rfl) ?_
                  refine Ops.q (q_pickF rfl rfl) ?_
                  refine Ops.q (q_mv rfl) ?_
                  refine Ops.sk ?_
                  refine Ops.sk ?_
                  refine Ops.sk ?_
                  refine Ops.sk ?_
                  refine Ops.sk ?_
                  refine Ops.sk ?_
                  refine Ops.q (q_pickT rfl rfl) ?_
                  refine Ops.to rfl ?_
                  refine Cd.cond_t rfl ?_
                  refine Cd.seq ?_
                  refine Cd.region ?_
                  refine Ops.q (q_asg rfl) ?_
                  refine Ops.to rfl ?_
                  refine Cd.rt (fn := Try.f72) [.int .i64 3] (by with_reducible repeat (first | exact rq_here | apply rq_then | apply rq_block)) rfl ⟨rfl, trivial⟩ ?_
                  intro w' hs
                  exact ⟨by unfold nCheck; simp only [joinV]; unfold wi at *; grind, hs.none⟩
              · refine Ops.cp en_95 rfl (fun w hs => dF (uwithin_c _ _ _ w) h14) ?_
                refine Ops.q (q_not rfl) ?_
                refine Ops.q (q_pickF rfl rfl) ?_
                refine Ops.q (q_mv rfl) ?_
                refine Ops.sk ?_
                refine Ops.sk ?_
                refine Ops.sk ?_
                refine Ops.sk ?_
                refine Ops.q (q_pickT rfl rfl) ?_
                refine Ops.q (q_mv rfl) ?_
                refine Ops.sk ?_
                refine Ops.sk ?_
                refine Ops.sk ?_
                refine Ops.sk ?_
                refine Ops.sk ?_
                refine Ops.sk ?_
                refine Ops.q (q_pickT rfl rfl) ?_
                refine Ops.to rfl ?_
                refine Cd.cond_t rfl ?_
                refine Cd.seq ?_
                refine Cd.region ?_
                refine Ops.q (q_asg rfl) ?_
                refine Ops.to rfl ?_
                refine Cd.rt (fn := Try.f72) [.int .i64 3] (by with_reducible repeat (first | exact rq_here | apply rq_then | apply rq_block)) rfl ⟨rfl, trivial⟩ ?_
                intro w' hs
                exact ⟨by unfold nCheck; simp only [joinV]; unfold wi at *; grind, hs.none⟩
            · refine Ops.cp en_95 rfl (fun w hs => dF (uwithin_c _ _ _ w) h13) ?_
              refine Ops.q (q_not rfl) ?_
              refine Ops.q (q_pickF rfl rfl) ?_
              refine Ops.q (q_mv rfl) ?_
              refine Ops.sk ?_
              refine Ops.sk ?_
              refine Ops.sk ?_
              refine Ops.sk ?_
              refine Ops.q (q_pickT rfl rfl) ?_
              refine Ops.q (q_mv rfl) ?_
              refine Ops.sk ?_
              refine Ops.sk ?_
              refine Ops.sk ?_
              refine Ops.sk ?_
              refine Ops.q (q_pickT rfl rfl) ?_
              refine Ops.q (q_mv rfl) ?_
              refine Ops.sk ?_
              refine Ops.sk ?_
              refine Ops.sk ?_
              refine Ops.sk ?_
              refine Ops.sk ?_
              refine Ops.sk ?_
              refine Ops.q (q_pickT rfl rfl) ?_
              refine Ops.to rfl ?_
              refine Cd.cond_t rfl ?_
              refine Cd.seq ?_
              refine Cd.region ?_
              refine Ops.q (q_asg rfl) ?_
              refine Ops.to rfl ?_
              refine Cd.rt (fn := Try.f72) [.int .i64 3] (by with_reducible repeat (first | exact rq_here | apply rq_then | apply rq_block)) rfl ⟨rfl, trivial⟩ ?_
              intro w' hs
              exact ⟨by unfold nCheck; simp only [joinV]; unfold wi at *; grind, hs.none⟩
          · refine Ops.cp en_95 rfl (fun w hs => dF (uwithin_c _ _ _ w) h12) ?_
            refine Ops.q (q_not rfl) ?_
            refine Ops.q (q_pickF rfl rfl) ?_
            refine Ops.q (q_mv rfl) ?_
            refine Ops.sk ?_
            refine Ops.sk ?_
            refine Ops.sk ?_
            refine Ops.sk ?_
            refine Ops.q (q_pickT rfl rfl) ?_
            refine Ops.q (q_mv rfl) ?_
            refine Ops.sk ?_
            refine Ops.sk ?_
            refine Ops.sk ?_
            refine Ops.sk ?_
            refine Ops.q (q_pickT rfl rfl) ?_
            refine Ops.q (q_mv rfl) ?_
            refine Ops.sk ?_
            refine Ops.sk ?_
            refine Ops.sk ?_
            refine Ops.sk ?_
            refine Ops.q (q_pickT rfl rfl) ?_
            refine Ops.q (q_mv rfl) ?_
            refine Ops.sk ?_
            refine Ops.sk ?_
            refine Ops.sk ?_
            refine Ops.sk ?_
            refine Ops.sk ?_
            refine Ops.sk ?_
            refine Ops.q (q_pickT rfl rfl) ?_
            refine Ops.to rfl ?_
            refine Cd.cond_t rfl ?_
            refine Cd.seq ?_
            refine Cd.region ?_
            refine Ops.q (q_asg rfl) ?_
            refine Ops.to rfl ?_
            refine Cd.rt (fn := Try.f72) [.int .i64 3] (by with_reducible repeat (first | exact rq_here | apply rq_then | apply rq_block)) rfl ⟨rfl, trivial⟩ ?_
            intro w' hs
            exact ⟨by unfold nCheck; simp only [joinV]; unfold wi at *; grind, hs.none⟩
        · refine Ops.cp en_95 rfl (fun w hs => dF (uwithin_c _ _ _ w) h11) ?_
          refine Ops.q (q_not rfl) ?_
          refine Ops.q (q_mv rfl) ?_
          refine Ops.sk ?_
          refine Ops.sk ?_
          refine Ops.sk ?_
          refine Ops.sk ?_
          refine Ops.q (q_pickT rfl rfl) ?_
          refine Ops.q (q_mv rfl) ?_
          refine Ops.sk ?_
          refine Ops.sk ?_
          refine Ops.sk ?_
          refine Ops.sk ?_
          refine Ops.q (q_pickT rfl rfl) ?_
          refine Ops.q (q_mv rfl) ?_
          refine Ops.sk ?_
          refine Ops.sk ?_
          refine Ops.sk ?_
          refine Ops.sk ?_
          refine Ops.q (q_pickT rfl rfl) ?_
          refine Ops.q (q_mv rfl) ?_
          refine Ops.sk ?_
          refine Ops.sk ?_
          refine Ops.sk ?_
          refine Ops.sk ?_
          refine Ops.q (q_pickT rfl rfl) ?_
          refine Ops.q (q_mv rfl) ?_
          refine Ops.sk ?_
          refine Ops.sk ?_
          refine Ops.sk ?_
          refine Ops.sk ?_
          refine Ops.sk ?_
          refine Ops.sk ?_
          refine Ops.q (q_pickT rfl rfl) ?_
          refine Ops.to rfl ?_
          refine Cd.cond_t rfl ?_
          refine Cd.seq ?_
          refine Cd.region ?_
          refine Ops.q (q_asg rfl) ?_
          refine Ops.to rfl ?_
          refine Cd.rt (fn := Try.f72) [.int .i64 3] (by with_reducible repeat (first | exact rq_here | apply rq_then | apply rq_block)) rfl ⟨rfl, trivial⟩ ?_
          intro w' hs
          exact ⟨by unfold nCheck; simp only [joinV]; unfold wi at *; grind, hs.none⟩
      · refine Ops.q (q_cmp rfl rfl (c_neq h10)) ?_
        refine Ops.to rfl ?_
        refine Cd.cond_f rfl ?_
        refine Cd.skipTo rfl ?_
        refine Cd.seq ?_
        refine Cd.seq ?_
        refine Cd.region ?_
        refine Ops.q (q_fa fo_116_1 rfl) ?_
        refine Ops.q (q_ldB isA_3 rfl .here rfl) ?_
        refine Ops.q (q_fa fo_170_0 rfl) ?_
        refine Ops.q (q_ldB isA_3 rfl (.there .here) rfl) ?_
        refine Ops.q (q_min rfl rfl) ?_
        refine Ops.q (q_fa fo_170_0 rfl) ?_
        refine Ops.q (q_ldB isA_3 rfl (.there .here) rfl) ?_
        by_cases h17 : wi p.leak (min 1 (limP p.lk)) (limP p.lk)
        · refine Ops.cp en_95 rfl (fun w hs => dT (uwithin_c _ _ _ w) h17) ?_
          refine Ops.q (q_not rfl) ?_
          refine Ops.q (q_mv rfl) ?_
          refine Ops.q (q_fa fo_116_2 rfl) ?_
          refine Ops.q (q_ldB isA_3 rfl .here rfl) ?_
          by_cases h18 : wi p.bias (-1048576) 1048576
          · refine Ops.cp en_95 rfl (fun w hs => dT (uwithin_c _ _ _ w) h18) ?_
            refine Ops.q (q_not rfl) ?_
            refine Ops.q (q_pickF rfl rfl) ?_
            refine Ops.q (q_mv rfl) ?_
            refine Ops.q (q_fa fo_116_6 rfl) ?_
            refine Ops.q (q_ldB isA_3 rfl .here rfl) ?_
            by_cases h19 : wi p.fl (-1048576) 0
            · refine Ops.cp en_95 rfl (fun w hs => dT (uwithin_c _ _ _ w) h19) ?_
              refine Ops.q (q_not rfl) ?_
              refine Ops.q (q_pickF rfl rfl) ?_
              refine Ops.q (q_mv rfl) ?_
              refine Ops.q (q_fa fo_116_3 rfl) ?_
              refine Ops.q (q_ldB isA_3 rfl .here rfl) ?_
              by_cases h20 : wi p.th 1 1048576
              · refine Ops.cp en_95 rfl (fun w hs => dT (uwithin_c _ _ _ w) h20) ?_
                refine Ops.q (q_not rfl) ?_
                refine Ops.q (q_pickF rfl rfl) ?_
                refine Ops.q (q_mv rfl) ?_
                refine Ops.q (q_fa fo_116_7 rfl) ?_
                refine Ops.q (q_ldB isA_3 rfl .here rfl) ?_
                by_cases h21 : wi p.rest 0 64
                · refine Ops.cp en_95 rfl (fun w hs => dT (uwithin_c _ _ _ w) h21) ?_
                  refine Ops.q (q_not rfl) ?_
                  refine Ops.q (q_pickF rfl rfl) ?_
                  refine Ops.q (q_mv rfl) ?_
                  refine Ops.q (q_fa fo_116_5 rfl) ?_
                  refine Ops.q (q_ldB isA_3 rfl .here rfl) ?_
                  refine Ops.q (q_mv rfl) ?_
                  refine Ops.q (q_mv rfl) ?_
                  by_cases h22 : wi p.rs p.fl (IntKind.i64.wrap (p.th - 1))
                  · refine Ops.cp en_95 rfl (fun w hs => dT (uwithin_c _ _ _ w) h22) ?_
                    refine Ops.q (q_not rfl) ?_
                    refine Ops.q (q_pickF rfl rfl) ?_
                    refine Ops.to rfl ?_
                    refine Cd.cond_f rfl ?_
                    refine Cd.skipTo rfl ?_
                    refine Cd.seq ?_
                    refine Cd.region ?_
                    refine Ops.q (q_asg rfl) ?_
                    refine Ops.to rfl ?_
                    refine Cd.rt (fn := Try.f72) [.int .i64 0] (by with_reducible repeat (first | exact rq_here | apply rq_then | apply rq_block)) rfl ⟨rfl, trivial⟩ ?_
                    intro w' hs
                    exact ⟨by unfold nCheck; simp only [joinV]; unfold wi at *; grind, hs.none⟩
                  · refine Ops.cp en_95 rfl (fun w hs => dF (uwithin_c _ _ _ w) h22) ?_
                    refine Ops.q (q_not rfl) ?_
                    refine Ops.q (q_pickF rfl rfl) ?_
                    refine Ops.to rfl ?_
                    refine Cd.cond_t rfl ?_
                    refine Cd.seq ?_
                    refine Cd.region ?_
                    refine Ops.q (q_asg rfl) ?_
                    refine Ops.to rfl ?_
                    refine Cd.rt (fn := Try.f72) [.int .i64 3] (by with_reducible repeat (first | exact rq_here | apply rq_then | apply rq_block)) rfl ⟨rfl, trivial⟩ ?_
                    intro w' hs
                    exact ⟨by unfold nCheck; simp only [joinV]; unfold wi at *; grind, hs.none⟩
                · refine Ops.cp en_95 rfl (fun w hs => dF (uwithin_c _ _ _ w) h21) ?_
                  refine Ops.q (q_not rfl) ?_
                  refine Ops.q (q_pickF rfl rfl) ?_
                  refine Ops.q (q_mv rfl) ?_
                  refine Ops.sk ?_
                  refine Ops.sk ?_
                  refine Ops.sk ?_
                  refine Ops.sk ?_
                  refine Ops.sk ?_
                  refine Ops.sk ?_
                  refine Ops.q (q_pickT rfl rfl) ?_
                  refine Ops.to rfl ?_
                  refine Cd.cond_t rfl ?_
                  refine Cd.seq ?_
                  refine Cd.region ?_
                  refine Ops.q (q_asg rfl) ?_
                  refine Ops.to rfl ?_
                  refine Cd.rt (fn := Try.f72) [.int .i64 3] (by with_reducible repeat (first | exact rq_here | apply rq_then | apply rq_block)) rfl ⟨rfl, trivial⟩ ?_
                  intro w' hs
                  exact ⟨by unfold nCheck; simp only [joinV]; unfold wi at *; grind, hs.none⟩
              · refine Ops.cp en_95 rfl (fun w hs => dF (uwithin_c _ _ _ w) h20) ?_
                refine Ops.q (q_not rfl) ?_
                refine Ops.q (q_pickF rfl rfl) ?_
                refine Ops.q (q_mv rfl) ?_
                refine Ops.sk ?_
                refine Ops.sk ?_
                refine Ops.sk ?_
                refine Ops.sk ?_
                refine Ops.q (q_pickT rfl rfl) ?_
                refine Ops.q (q_mv rfl) ?_
                refine Ops.sk ?_
                refine Ops.sk ?_
                refine Ops.sk ?_
                refine Ops.sk ?_
                refine Ops.sk ?_
                refine Ops.sk ?_
                refine Ops.q (q_pickT rfl rfl) ?_
                refine Ops.to rfl ?_
                refine Cd.cond_t rfl ?_
                refine Cd.seq ?_
                refine Cd.region ?_
                refine Ops.q (q_asg rfl) ?_
                refine Ops.to rfl ?_
                refine Cd.rt (fn := Try.f72) [.int .i64 3] (by with_reducible repeat (first | exact rq_here | apply rq_then | apply rq_block)) rfl ⟨rfl, trivial⟩ ?_
                intro w' hs
                exact ⟨by unfold nCheck; simp only [joinV]; unfold wi at *; grind, hs.none⟩
            · refine Ops.cp en_95 rfl (fun w hs => dF (uwithin_c _ _ _ w) h19) ?_
              refine Ops.q (q_not rfl) ?_
              refine Ops.q (q_pickF rfl rfl) ?_
              refine Ops.q (q_mv rfl) ?_
              refine Ops.sk ?_
              refine Ops.sk ?_
              refine Ops.sk ?_
              refine Ops.sk ?_
              refine Ops.q (q_pickT rfl rfl) ?_
              refine Ops.q (q_mv rfl) ?_
              refine Ops.sk ?_
              refine Ops.sk ?_
              refine Ops.sk ?_
              refine Ops.sk ?_
              refine Ops.q (q_pickT rfl rfl) ?_
              refine Ops.q (q_mv rfl) ?_
              refine Ops.sk ?_
              refine Ops.sk ?_
              refine Ops.sk ?_
              refine Ops.sk ?_
              refine Ops.sk ?_
              refine Ops.sk ?_
              refine Ops.q (q_pickT rfl rfl) ?_
              refine Ops.to rfl ?_
              refine Cd.cond_t rfl ?_
              refine Cd.seq ?_
              refine Cd.region ?_
              refine Ops.q (q_asg rfl) ?_
              refine Ops.to rfl ?_
              refine Cd.rt (fn := Try.f72) [.int .i64 3] (by with_reducible repeat (first | exact rq_here | apply rq_then | apply rq_block)) rfl ⟨rfl, trivial⟩ ?_
              intro w' hs
              exact ⟨by unfold nCheck; simp only [joinV]; unfold wi at *; grind, hs.none⟩
          · refine Ops.cp en_95 rfl (fun w hs => dF (uwithin_c _ _ _ w) h18) ?_
            refine Ops.q (q_not rfl) ?_
            refine Ops.q (q_pickF rfl rfl) ?_
            refine Ops.q (q_mv rfl) ?_
            refine Ops.sk ?_
            refine Ops.sk ?_
            refine Ops.sk ?_
            refine Ops.sk ?_
            refine Ops.q (q_pickT rfl rfl) ?_
            refine Ops.q (q_mv rfl) ?_
            refine Ops.sk ?_
            refine Ops.sk ?_
            refine Ops.sk ?_
            refine Ops.sk ?_
            refine Ops.q (q_pickT rfl rfl) ?_
            refine Ops.q (q_mv rfl) ?_
            refine Ops.sk ?_
            refine Ops.sk ?_
            refine Ops.sk ?_
            refine Ops.sk ?_
            refine Ops.q (q_pickT rfl rfl) ?_
            refine Ops.q (q_mv rfl) ?_
            refine Ops.sk ?_
            refine Ops.sk ?_
            refine Ops.sk ?_
            refine Ops.sk ?_
            refine Ops.sk ?_
            refine Ops.sk ?_
            refine Ops.q (q_pickT rfl rfl) ?_
            refine Ops.to rfl ?_
            refine Cd.cond_t rfl ?_
            refine Cd.seq ?_
            refine Cd.region ?_
            refine Ops.q (q_asg rfl) ?_
            refine Ops.to rfl ?_
            refine Cd.rt (fn := Try.f72) [.int .i64 3] (by with_reducible repeat (first | exact rq_here | apply rq_then | apply rq_block)) rfl ⟨rfl, trivial⟩ ?_
            intro w' hs
            exact ⟨by unfold nCheck; simp only [joinV]; unfold wi at *; grind, hs.none⟩
        · refine Ops.cp en_95 rfl (fun w hs => dF (uwithin_c _ _ _ w) h17) ?_
          refine Ops.q (q_not rfl) ?_
          refine Ops.q (q_mv rfl) ?_
          refine Ops.sk ?_
          refine Ops.sk ?_
          refine Ops.sk ?_
          refine Ops.sk ?_
          refine Ops.q (q_pickT rfl rfl) ?_
          refine Ops.q (q_mv rfl) ?_
          refine Ops.sk ?_
          refine Ops.sk ?_
          refine Ops.sk ?_
          refine Ops.sk ?_
          refine Ops.q (q_pickT rfl rfl) ?_
          refine Ops.q (q_mv rfl) ?_
          refine Ops.sk ?_
          refine Ops.sk ?_
          refine Ops.sk ?_
          refine Ops.sk ?_
          refine Ops.q (q_pickT rfl rfl) ?_
          refine Ops.q (q_mv rfl) ?_
          refine Ops.sk ?_
          refine Ops.sk ?_
          refine Ops.sk ?_
          refine Ops.sk ?_
          refine Ops.q (q_pickT rfl rfl) ?_
          refine Ops.q (q_mv rfl) ?_
          refine Ops.sk ?_
          refine Ops.sk ?_
          refine Ops.sk ?_
          refine Ops.sk ?_
          refine Ops.sk ?_
          refine Ops.sk ?_
          refine Ops.q (q_pickT rfl rfl) ?_
          refine Ops.to rfl ?_
          refine Cd.cond_t rfl ?_
          refine Cd.seq ?_
          refine Cd.region ?_
          refine Ops.q (q_asg rfl) ?_
          refine Ops.to rfl ?_
          refine Cd.rt (fn := Try.f72) [.int .i64 3] (by with_reducible repeat (first | exact rq_here | apply rq_then | apply rq_block)) rfl ⟨rfl, trivial⟩ ?_
          intro w' hs
          exact ⟨by unfold nCheck; simp only [joinV]; unfold wi at *; grind, hs.none⟩
    · refine Ops.cp en_95 rfl (fun w hs => dF (uwithin_c _ _ _ w) h4) ?_
      refine Ops.q (q_not rfl) ?_
      refine Ops.q (q_pickF rfl rfl) ?_
      refine Ops.to rfl ?_
      refine Cd.cond_t rfl ?_
      refine Cd.seq ?_
      refine Cd.region ?_
      refine Ops.q (q_asg rfl) ?_
      refine Ops.to rfl ?_
      refine Cd.rt (fn := Try.f72) [.int .i64 2] (by with_reducible repeat (first | exact rq_here | apply rq_then | apply rq_block)) rfl ⟨rfl, trivial⟩ ?_
      intro w' hs
      exact ⟨by unfold nCheck; simp only [joinV]; unfold wi at *; grind, hs.none⟩
  · refine Ops.cp en_94 rfl (fun w hs => leaks_f w h2) ?_
    refine Ops.q (q_mv rfl) ?_
    refine Ops.q (q_ext rfl rfl) ?_
    refine Ops.q (q_ext rfl rfl) ?_
    refine Ops.alc [.int .i64 0, .nilFunc] zc_170 ?_
    intro b23
    refine Ops.stB [.int .i64 (limP p.lk), .nilFunc] [.int .i64 (limP p.lk), .nilFunc] sz_170 rfl rfl rfl (one rfl) .here rfl rfl ?_
    refine Ops.q (q_asg rfl) ?_
    refine Ops.to rfl ?_
    refine Cd.seq ?_
    refine Cd.seq ?_
    refine Cd.region ?_
    refine Ops.q (q_mv rfl) ?_
    refine Ops.q (q_not rfl) ?_
    refine Ops.q (q_mv rfl) ?_
    refine Ops.sk ?_
    refine Ops.sk ?_
    refine Ops.sk ?_
    refine Ops.sk ?_
    refine Ops.q (q_pickT rfl rfl) ?_
    refine Ops.to rfl ?_
    refine Cd.cond_t rfl ?_
    refine Cd.seq ?_
    refine Cd.region ?_
    refine Ops.q (q_asg rfl) ?_
    refine Ops.to rfl ?_
    refine Cd.rt (fn := Try.f72) [.int .i64 2] (by with_reducible repeat (first | exact rq_here | apply rq_then | apply rq_block)) rfl ⟨rfl, trivial⟩ ?_
    intro w' hs
    exact ⟨by unfold nCheck; simp only [joinV]; unfold wi at *; grind, hs.none⟩
end Go.Proofs.Ytilcdghliigngaa
namespace Go.Proofs.Ytilcdghliigngaa
open Go.RowKit Go.Proofs.YtilcdghliigngaaGl Go.Proofs.YtilcdghliigngaaPm
set_option linter.unusedVariables false
set_option linter.unusedSimpArgs false
theorem nvalid_c (p : Prm) (s : Stt) (w : World) : Calls Try.prog 120 [.agg (ePrm p).toArray, .agg (eStt s).toArray].toArray w fun e w' => e = .returned (.int .i64 (nValid p s)) ∧ Sat w w' [] := by
  refine fstart Try.func120 rfl rfl (Sat.nil w) ?_
  refine Cd.seq ?_
  refine Cd.region ?_
  refine Ops.box [.int .i64 p.lk, .int .i64 p.leak, .int .i64 p.bias, .int .i64 p.th, .int .i64 p.rk, .int .i64 p.rs, .int .i64 p.fl, .int .i64 p.rest] rfl rfl ?_
  intro b1
  refine Ops.box [.int .i64 s.v, .int .i64 s.rest] rfl rfl ?_
  intro b2
  refine Ops.q (q_asg rfl) ?_
  refine Ops.to rfl ?_
  refine Cd.seq ?_
  refine Cd.seq ?_
  refine Cd.region ?_
  refine Ops.q (q_ldBN [.int .i64 p.lk, .int .i64 p.leak, .int .i64 p.bias, .int .i64 p.th, .int .i64 p.rk, .int .i64 p.rs, .int .i64 p.fl, .int .i64 p.rest] isA_116 sz_116 rfl (.there .here) rfl) ?_
  refine Ops.cp en_72 rfl (fun w hs => ncheck_c p w) ?_
  refine Ops.q (q_asg rfl) ?_
  refine Ops.to rfl ?_
  refine Cd.seq ?_
  refine Cd.region ?_
  refine Ops.q (q_mv rfl) ?_
  by_cases h3 : nCheck p = 0
  · refine Ops.q (q_cmp rfl rfl (c_nne h3)) ?_
    refine Ops.to rfl ?_
    refine Cd.cond_f rfl ?_
    refine Cd.skipTo rfl ?_
    refine Cd.seq ?_
    refine Cd.seq ?_
    refine Cd.region ?_
    refine Ops.q (q_fa fo_184_0 rfl) ?_
    refine Ops.q (q_ldB isA_3 rfl .here rfl) ?_
    refine Ops.q (q_fa fo_116_6 rfl) ?_
    refine Ops.q (q_ldB isA_3 rfl (.there .here) rfl) ?_
    by_cases h4 : wi s.v p.fl 1048576
    · refine Ops.cp en_95 rfl (fun w hs => dT (uwithin_c _ _ _ w) h4) ?_
      refine Ops.q (q_not rfl) ?_
      refine Ops.q (q_mv rfl) ?_
      refine Ops.q (q_fa fo_184_1 rfl) ?_
      refine Ops.q (q_ldB isA_3 rfl .here rfl) ?_
      refine Ops.q (q_fa fo_116_7 rfl) ?_
      refine Ops.q (q_ldB isA_3 rfl (.there .here) rfl) ?_
      by_cases h5 : wi s.rest 0 p.rest
      · refine Ops.cp en_95 rfl (fun w hs => dT (uwithin_c _ _ _ w) h5) ?_
        refine Ops.q (q_not rfl) ?_
        refine Ops.q (q_pickF rfl rfl) ?_
        refine Ops.to rfl ?_
        refine Cd.cond_f rfl ?_
        refine Cd.skipTo rfl ?_
        refine Cd.seq ?_
        refine Cd.region ?_
        refine Ops.q (q_asg rfl) ?_
        refine Ops.to rfl ?_
        refine Cd.rt (fn := Try.f120) [.int .i64 0] (by with_reducible repeat (first | exact rq_here | apply rq_then | apply rq_block)) rfl ⟨rfl, trivial⟩ ?_
        intro w' hs
        exact ⟨by unfold nValid; simp only [joinV]; grind, hs.none⟩
      · refine Ops.cp en_95 rfl (fun w hs => dF (uwithin_c _ _ _ w) h5) ?_
        refine Ops.q (q_not rfl) ?_
        refine Ops.q (q_pickF rfl rfl) ?_
        refine Ops.to rfl ?_
        refine Cd.cond_t rfl ?_
        refine Cd.seq ?_
        refine Cd.region ?_
        refine Ops.q (q_asg rfl) ?_
        refine Ops.to rfl ?_
        refine Cd.rt (fn := Try.f120) [.int .i64 3] (by with_reducible repeat (first | exact rq_here | apply rq_then | apply rq_block)) rfl ⟨rfl, trivial⟩ ?_
        intro w' hs
        exact ⟨by unfold nValid; simp only [joinV]; grind, hs.none⟩
    · refine Ops.cp en_95 rfl (fun w hs => dF (uwithin_c _ _ _ w) h4) ?_
      refine Ops.q (q_not rfl) ?_
      refine Ops.q (q_mv rfl) ?_
      refine Ops.sk ?_
      refine Ops.sk ?_
      refine Ops.sk ?_
      refine Ops.sk ?_
      refine Ops.sk ?_
      refine Ops.sk ?_
      refine Ops.q (q_pickT rfl rfl) ?_
      refine Ops.to rfl ?_
      refine Cd.cond_t rfl ?_
      refine Cd.seq ?_
      refine Cd.region ?_
      refine Ops.q (q_asg rfl) ?_
      refine Ops.to rfl ?_
      refine Cd.rt (fn := Try.f120) [.int .i64 3] (by with_reducible repeat (first | exact rq_here | apply rq_then | apply rq_block)) rfl ⟨rfl, trivial⟩ ?_
      intro w' hs
      exact ⟨by unfold nValid; simp only [joinV]; grind, hs.none⟩
  · refine Ops.q (q_cmp rfl rfl (c_ne h3)) ?_
    refine Ops.to rfl ?_
    refine Cd.cond_t rfl ?_
    refine Cd.seq ?_
    refine Cd.region ?_
    refine Ops.q (q_mv rfl) ?_
    refine Ops.q (q_asg rfl) ?_
    refine Ops.to rfl ?_
    refine Cd.rt (fn := Try.f120) [.int .i64 (nCheck p)] (by with_reducible repeat (first | exact rq_here | apply rq_then | apply rq_block)) rfl ⟨rfl, trivial⟩ ?_
    intro w' hs
    exact ⟨by unfold nValid; simp only [joinV]; grind, hs.none⟩
theorem newCell_ok (p : Prm) (s : Stt) (w : World) (h : nValid p s = 0) : Calls Try.prog 115 [.agg (ePrm p).toArray, .agg (eStt s).toArray].toArray w fun e w' => ∃ b : Nat, e = .returned (.tuple [.pointer (some ⟨b, 0, none⟩), .int .i64 0].toArray) ∧ Sat w w' [blk b 207 [.int .i64 p.lk, .int .i64 p.leak, .int .i64 p.bias, .int .i64 p.th, .int .i64 p.rk, .int .i64 p.rs, .int .i64 p.fl, .int .i64 p.rest, .int .i64 s.v, .int .i64 s.rest, .func (.func (fnK p.lk)) #[] #[]]] := by
  refine fstart Try.func115 rfl rfl (Sat.nil w) ?_
  refine Cd.seq ?_
  refine Cd.region ?_
  refine Ops.box [.int .i64 p.lk, .int .i64 p.leak, .int .i64 p.bias, .int .i64 p.th, .int .i64 p.rk, .int .i64 p.rs, .int .i64 p.fl, .int .i64 p.rest] rfl rfl ?_
  intro b1
  refine Ops.box [.int .i64 s.v, .int .i64 s.rest] rfl rfl ?_
  intro b2
  refine Ops.q (q_asg rfl) ?_
  refine Ops.q (q_asg rfl) ?_
  refine Ops.to rfl ?_
  refine Cd.seq ?_
  refine Cd.seq ?_
  refine Cd.region ?_
  refine Ops.q (q_ldBN [.int .i64 p.lk, .int .i64 p.leak, .int .i64 p.bias, .int .i64 p.th, .int .i64 p.rk, .int .i64 p.rs, .int .i64 p.fl, .int .i64 p.rest] isA_116 sz_116 rfl (.there .here) rfl) ?_
  refine Ops.q (q_ldBN [.int .i64 s.v, .int .i64 s.rest] isA_184 sz_184 rfl .here rfl) ?_
  refine Ops.cp en_120 rfl (fun w hs => nvalid_c p s w) ?_
  refine Ops.q (q_asg rfl) ?_
  refine Ops.to rfl ?_
  refine Cd.seq ?_
  refine Cd.region ?_
  refine Ops.q (q_mv rfl) ?_
  refine Ops.q (q_cmp rfl rfl (c_nne h)) ?_
  refine Ops.to rfl ?_
  refine Cd.cond_f rfl ?_
  refine Cd.skipTo rfl ?_
  refine Cd.seq ?_
  refine Cd.region ?_
  refine Ops.q (q_fa fo_116_0 rfl) ?_
  refine Ops.q (q_ldB isA_3 rfl (.there .here) rfl) ?_
  refine Ops.cp en_94 rfl (fun w hs => leaks_t w (nCheck_ok (nValid_ok h).1).1) ?_
  refine Ops.q (q_mv rfl) ?_
  refine Ops.q (q_ext rfl rfl) ?_
  refine Ops.q (q_ext rfl rfl) ?_
  refine Ops.alc [.int .i64 0, .nilFunc] zc_170 ?_
  intro b3
  refine Ops.stB [.int .i64 (limP p.lk), .func (.func (fnK p.lk)) #[] #[]] [.int .i64 (limP p.lk), .func (.func (fnK p.lk)) #[] #[]] sz_170 rfl rfl rfl (one rfl) .here rfl rfl ?_
  refine Ops.q (q_asg rfl) ?_
  refine Ops.to rfl ?_
  refine Cd.seq ?_
  refine Cd.region ?_
  refine Ops.q (q_ldBN [.int .i64 p.lk, .int .i64 p.leak, .int .i64 p.bias, .int .i64 p.th, .int .i64 p.rk, .int .i64 p.rs, .int .i64 p.fl, .int .i64 p.rest] isA_116 sz_116 rfl (.there (.there .here)) rfl) ?_
  refine Ops.q (q_ldBN [.int .i64 s.v, .int .i64 s.rest] isA_184 sz_184 rfl (.there .here) rfl) ?_
  refine Ops.q (q_fa fo_170_1 rfl) ?_
  refine Ops.q (q_ldB isA_168 rfl .here rfl) ?_
  refine Ops.q (q_bld [.int .i64 p.lk, .int .i64 p.leak, .int .i64 p.bias, .int .i64 p.th, .int .i64 p.rk, .int .i64 p.rs, .int .i64 p.fl, .int .i64 p.rest, .int .i64 s.v, .int .i64 s.rest, .func (.func (fnK p.lk)) #[] #[]] pls_207 zc_207 rfl rfl) ?_
  refine Ops.box [.int .i64 p.lk, .int .i64 p.leak, .int .i64 p.bias, .int .i64 p.th, .int .i64 p.rk, .int .i64 p.rs, .int .i64 p.fl, .int .i64 p.rest, .int .i64 s.v, .int .i64 s.rest, .func (.func (fnK p.lk)) #[] #[]] rfl rfl ?_
  intro b4
  refine Ops.q (q_asg rfl) ?_
  refine Ops.q (q_asg rfl) ?_
  refine Ops.to rfl ?_
  refine Cd.rt (fn := Try.f115) [.pointer (some ⟨b4, 0, none⟩), .int .i64 0] (by with_reducible repeat (first | exact rq_here | apply rq_then | apply rq_block)) rfl ⟨rfl, rfl, trivial⟩ ?_
  intro w' hs
  exact ⟨_, rfl, hs.only .here⟩
theorem newCell_err (p : Prm) (s : Stt) (w : World) (h : nValid p s ≠ 0) : Calls Try.prog 115 [.agg (ePrm p).toArray, .agg (eStt s).toArray].toArray w fun e w' => e = .returned (.tuple [.pointer none, .int .i64 (nValid p s)].toArray) ∧ Sat w w' [] := by
  refine fstart Try.func115 rfl rfl (Sat.nil w) ?_
  refine Cd.seq ?_
  refine Cd.region ?_
  refine Ops.box [.int .i64 p.lk, .int .i64 p.leak, .int .i64 p.bias, .int .i64 p.th, .int .i64 p.rk, .int .i64 p.rs, .int .i64 p.fl, .int .i64 p.rest] rfl rfl ?_
  intro b1
  refine Ops.box [.int .i64 s.v, .int .i64 s.rest] rfl rfl ?_
  intro b2
  refine Ops.q (q_asg rfl) ?_
  refine Ops.q (q_asg rfl) ?_
  refine Ops.to rfl ?_
  refine Cd.seq ?_
  refine Cd.seq ?_
  refine Cd.region ?_
  refine Ops.q (q_ldBN [.int .i64 p.lk, .int .i64 p.leak, .int .i64 p.bias, .int .i64 p.th, .int .i64 p.rk, .int .i64 p.rs, .int .i64 p.fl, .int .i64 p.rest] isA_116 sz_116 rfl (.there .here) rfl) ?_
  refine Ops.q (q_ldBN [.int .i64 s.v, .int .i64 s.rest] isA_184 sz_184 rfl .here rfl) ?_
  refine Ops.cp en_120 rfl (fun w hs => nvalid_c p s w) ?_
  refine Ops.q (q_asg rfl) ?_
  refine Ops.to rfl ?_
  refine Cd.seq ?_
  refine Cd.region ?_
  refine Ops.q (q_mv rfl) ?_
  refine Ops.q (q_cmp rfl rfl (c_ne h)) ?_
  refine Ops.to rfl ?_
  refine Cd.cond_t rfl ?_
  refine Cd.seq ?_
  refine Cd.region ?_
  refine Ops.q (q_mv rfl) ?_
  refine Ops.q (q_asg rfl) ?_
  refine Ops.q (q_asg rfl) ?_
  refine Ops.to rfl ?_
  refine Cd.rt (fn := Try.f115) [.pointer none, .int .i64 (nValid p s)] (by with_reducible repeat (first | exact rq_here | apply rq_then | apply rq_block)) rfl ⟨rfl, rfl, trivial⟩ ?_
  intro w' hs
  exact ⟨rfl, hs.none⟩
theorem bounded_c (v lo hi : Int) (w : World) : Calls Try.prog 121 [.int .i64 v, .int .i64 lo, .int .i64 hi].toArray w fun e w' => e = .returned (.int .i64 (boundP v lo hi)) ∧ Sat w w' [] := by
  refine fstart Try.func121 rfl rfl (Sat.nil w) ?_
  refine Cd.seq ?_
  refine Cd.region ?_
  refine Ops.q (q_asg rfl) ?_
  refine Ops.to rfl ?_
  refine Cd.seq ?_
  refine Cd.region ?_
  refine Ops.q (q_mv rfl) ?_
  refine Ops.q (q_mv rfl) ?_
  refine Ops.q (q_mv rfl) ?_
  refine Ops.q (q_min rfl rfl) ?_
  refine Ops.q (q_max rfl rfl) ?_
  refine Ops.q (q_asg rfl) ?_
  refine Ops.to rfl ?_
  refine Cd.rt (fn := Try.f121) [.int .i64 (max lo (min hi v))] (by with_reducible repeat (first | exact rq_here | apply rq_then | apply rq_block)) rfl ⟨rfl, trivial⟩ ?_
  intro w' hs
  exact ⟨rfl, hs.none⟩
theorem leakfn_c (p : Prm) (v : Int) (h : okP p.lk) (hl : wi p.leak (min 1 (limP p.lk)) (limP p.lk)) (hv : wi v (-1048576) 1048576) :
    ∃ k, Enters Try.prog k ∧ (.func (.func (fnK p.lk)) #[] #[] : Value) = .func (.func k) #[] #[] ∧ ∀ w, Calls Try.prog k [.agg (ePrm p).toArray, .int .i64 v].toArray w fun e w' => e = .returned (.int .i64 (leakP p v)) ∧ Sat w w' [] := by
  rcases leak_lim h hl with ⟨h1, h2⟩ | ⟨h1, h2⟩ | ⟨h1, h2⟩
  · refine ⟨112, en_112, by simp [fnK, h1], fun w => ?_⟩
    rw [show leakP p v = v by simp [leakP, h1]]
    exact leak1_c p v w
  · refine ⟨113, en_113, by simp [fnK, h1], fun w => ?_⟩
    have := leak2_c p v w hv (by unfold wi; omega)
    rwa [show (if v < 0 then min 0 (v + p.leak) else max 0 (v - p.leak)) = leakP p v by simp [leakP, h1]] at this
  · refine ⟨114, en_114, by simp [fnK, h1], fun w => ?_⟩
    have := leak3_c p v w hv (by unfold wi; omega)
    rwa [show v - (v * p.leak).tdiv 256 = leakP p v by simp [leakP, h1]] at this
theorem leakP_bd {p : Prm} {v : Int} (h : okP p.lk) (hl : wi p.leak (min 1 (limP p.lk)) (limP p.lk)) (hv : wi v (-1048576) 1048576) : -4194304 ≤ leakP p v ∧ leakP p v ≤ 4194304 := by
  unfold wi at hv
  rcases leak_lim h hl with ⟨h1, h2⟩ | ⟨h1, h2⟩ | ⟨h1, h2⟩
  · simp [leakP, h1]; omega
  · simp [leakP, h1]; split <;> omega
  · have := tdiv256 (mul_box hv (show 0 ≤ p.leak ∧ p.leak ≤ 256 by omega))
    simp [leakP, h1]; omega
theorem ctick_c (b : Nat) (p : Prm) (s : Stt) (i : Int) (w0 w : World) (F : List Atom) (hn0 : nValid p s = 0)
    (hs : Sat w0 w (blk b 207 [.int .i64 p.lk, .int .i64 p.leak, .int .i64 p.bias, .int .i64 p.th, .int .i64 p.rk, .int .i64 p.rs, .int .i64 p.fl, .int .i64 p.rest, .int .i64 s.v, .int .i64 s.rest, .func (.func (fnK p.lk)) #[] #[]] :: F)) :
    Calls Try.prog 116 [.pointer (some ⟨b, 0, none⟩), .int .i64 i].toArray w fun e w' => e = .returned (.bool (tickP p s i).2) ∧ Sat w0 w' (blk b 207 [.int .i64 p.lk, .int .i64 p.leak, .int .i64 p.bias, .int .i64 p.th, .int .i64 p.rk, .int .i64 p.rs, .int .i64 p.fl, .int .i64 p.rest, .int .i64 (tickP p s i).1.v, .int .i64 (tickP p s i).1.rest, .func (.func (fnK p.lk)) #[] #[]] :: F) := by
  obtain ⟨hnc, hsv, hsr⟩ := nValid_ok hn0
  have hq := nCheck_ok hnc
  have hvb : wi s.v (-1048576) 1048576 := by obtain ⟨_, _, _, _, h, _⟩ := hq; unfold wi at *; omega
  have hlb := leakP_bd hq.1 hq.2.2.1 hvb
  obtain ⟨hq1, hq2, hq3, hq4, hq5, hq6, hq7, hq8⟩ := id hq
  have hbi := boundP_bd i (lo := -4194304) (hi := 4194304) (by omega)
  unfold wi at hsv hsr hq2 hq4 hq5 hq6 hq7
  refine fstart Try.func116 rfl rfl hs ?_
  refine Cd.seq ?_
  refine Cd.region ?_
  refine Ops.q (q_asg rfl) ?_
  refine Ops.to rfl ?_
  refine Cd.seq ?_
  refine Cd.seq ?_
  refine Cd.region ?_
  refine Ops.q (q_mv rfl) ?_
  refine Ops.q (q_nck rfl) ?_
  refine Ops.q (q_fa fo_207_1 rfl) ?_
  refine Ops.q (q_fa fo_184_1 rfl) ?_
  refine Ops.q (q_ldB isA_3 rfl .here rfl) ?_
  by_cases h1 : 0 < s.rest
  · refine Ops.q (q_cmp rfl rfl (c_gt h1)) ?_
    refine Ops.to rfl ?_
    refine Cd.cond_t rfl ?_
    refine Cd.seq ?_
    refine Cd.region ?_
    refine Ops.q (q_mv rfl) ?_
    refine Ops.q (q_nck rfl) ?_
    refine Ops.q (q_fa fo_207_1 rfl) ?_
    refine Ops.q (q_fa fo_184_1 rfl) ?_
    refine Ops.q (q_ldB isA_3 rfl .here rfl) ?_
    refine Ops.q (q_ar rfl rfl (a_sub (by omega))) ?_
    refine Ops.q (q_nck rfl) ?_
    refine Ops.q (q_fa fo_207_1 rfl) ?_
    refine Ops.q (q_fa fo_184_1 rfl) ?_
    refine Ops.stB [.int .i64 (s.rest - 1)] [.int .i64 p.lk, .int .i64 p.leak, .int .i64 p.bias, .int .i64 p.th, .int .i64 p.rk, .int .i64 p.rs, .int .i64 p.fl, .int .i64 p.rest, .int .i64 s.v, .int .i64 (s.rest - 1), .func (.func (fnK p.lk)) #[] #[]] sz_3 rfl rfl rfl (one rfl) .here rfl rfl ?_
    refine Ops.to rfl ?_
    refine Cd.seq ?_
    refine Cd.region ?_
    refine Ops.q (q_asg rfl) ?_
    refine Ops.to rfl ?_
    refine Cd.rt (fn := Try.f116) [.bool false] (by with_reducible repeat (first | exact rq_here | apply rq_then | apply rq_block)) rfl ⟨rfl, trivial⟩ ?_
    intro w' hs'
    have ht : tickP p s i = (⟨s.v, s.rest - 1⟩, false) := by unfold tickP; rw [if_neg (by simp [hn0])]; simp only [tickV]; grind
    exact ⟨by rw [ht]; rfl, by rw [ht]; exact hs'⟩
  · refine Ops.q (q_cmp rfl rfl (c_ngt (by omega))) ?_
    refine Ops.to rfl ?_
    refine Cd.cond_f rfl ?_
    refine Cd.skipTo rfl ?_
    refine Cd.seq ?_
    refine Cd.draw rfl (by kernel_rfl) (.cons .here .nil) ?_
    intro F2 St3 hP4 hF5 hR6
    refine Dr.q (i := 0) hP4 rfl (by kernel_rfl) (q_mv rfl) ?_
    refine Dr.q (i := 1) hP4 rfl (by kernel_rfl) (q_nck rfl) ?_
    refine Dr.q (i := 2) hP4 rfl (by kernel_rfl) (q_fa fo_207_2 rfl) ?_
    refine Dr.q (i := 3) hP4 rfl (by kernel_rfl) (q_ldB isA_168 rfl .here rfl) ?_
    refine Dr.q (i := 4) hP4 rfl (by kernel_rfl) (q_mv rfl) ?_
    refine Dr.q (i := 5) hP4 rfl (by kernel_rfl) (q_nck rfl) ?_
    refine Dr.q (i := 6) hP4 rfl (by kernel_rfl) (q_fa fo_207_0 rfl) ?_
    refine Dr.q (i := 7) hP4 rfl (by kernel_rfl) (q_ldBN [.int .i64 p.lk, .int .i64 p.leak, .int .i64 p.bias, .int .i64 p.th, .int .i64 p.rk, .int .i64 p.rs, .int .i64 p.fl, .int .i64 p.rest] isA_116 sz_116 rfl .here rfl) ?_
    refine Dr.q (i := 8) hP4 rfl (by kernel_rfl) (q_mv rfl) ?_
    refine Dr.q (i := 9) hP4 rfl (by kernel_rfl) (q_nck rfl) ?_
    refine Dr.q (i := 10) hP4 rfl (by kernel_rfl) (q_fa fo_207_1 rfl) ?_
    refine Dr.q (i := 11) hP4 rfl (by kernel_rfl) (q_fa fo_184_0 rfl) ?_
    refine Dr.q (i := 12) hP4 rfl (by kernel_rfl) (q_ldB isA_3 rfl .here rfl) ?_
    refine Dr.q (i := 14) hP4 rfl (by kernel_rfl) (q_mv rfl) ?_
    refine Dr.q (i := 15) hP4 rfl (by kernel_rfl) (q_nck rfl) ?_
    refine Dr.q (i := 16) hP4 rfl (by kernel_rfl) (q_fa fo_207_0 rfl) ?_
    refine Dr.q (i := 17) hP4 rfl (by kernel_rfl) (q_fa fo_116_2 rfl) ?_
    refine Dr.q (i := 18) hP4 rfl (by kernel_rfl) (q_ldB isA_3 rfl .here rfl) ?_
    refine Dr.q (i := 20) hP4 rfl (by kernel_rfl) (q_mv rfl) ?_
    refine Dr.q (i := 23) hP4 rfl (by kernel_rfl) (q_mv rfl) ?_
    refine Dr.q (i := 24) hP4 rfl (by kernel_rfl) (q_nck rfl) ?_
    refine Dr.q (i := 25) hP4 rfl (by kernel_rfl) (q_fa fo_207_0 rfl) ?_
    refine Dr.q (i := 26) hP4 rfl (by kernel_rfl) (q_fa fo_116_6 rfl) ?_
    refine Dr.q (i := 27) hP4 rfl (by kernel_rfl) (q_ldB isA_3 rfl .here rfl) ?_
    refine Dr.e (i := 13) rfl (by kernel_rfl) ?_
    refine Ops.cvE rfl rfl ((leakfn_c p s.v hq.1 hq.2.2.1 hvb).imp fun k h => ⟨h.1, h.2.1, fun w _ => h.2.2 w⟩) ?_
    refine Dr.back (fun _ hs => hF5 .here hs) ?_
    refine Dr.q (i := 19) hP4 rfl (by kernel_rfl) (q_ar rfl rfl (a_add (by omega))) ?_
    refine Dr.e (i := 21) rfl (by kernel_rfl) ?_
    refine Ops.cp en_121 rfl (fun w hs => bounded_c i (-4194304) 4194304 w) ?_
    have hb42 := boundP_bd i (lo := (-4194304)) (hi := 4194304) (by omega)
    refine Dr.back (fun _ hs => hF5 .here hs) ?_
    refine Dr.q (i := 22) hP4 rfl (by kernel_rfl) (q_ar rfl rfl (a_add (by omega))) ?_
    refine Dr.e (i := 28) rfl (by kernel_rfl) ?_
    refine Ops.cp en_121 rfl (fun w hs => bounded_c (((leakP p s.v) + p.bias) + (boundP i (-4194304) 4194304)) p.fl 1048576 w) ?_
    have hb49 := boundP_bd (((leakP p s.v) + p.bias) + (boundP i (-4194304) 4194304)) (lo := p.fl) (hi := 1048576) (by omega)
    refine Dr.back (fun _ hs => hF5 .here hs) ?_
    refine Dr.tail 29 (by kernel_rfl) ?_
    refine Ops.sat ?_ (fun _ hs => hR6 .here hs)
    refine Ops.q (q_asg rfl) ?_
    refine Ops.to rfl ?_
    refine Cd.seq ?_
    refine Cd.region ?_
    refine Ops.q (q_mv rfl) ?_
    refine Ops.q (q_mv rfl) ?_
    refine Ops.q (q_nck rfl) ?_
    refine Ops.q (q_fa fo_207_1 rfl) ?_
    refine Ops.q (q_fa fo_184_0 rfl) ?_
    refine Ops.stB [.int .i64 (boundP (((leakP p s.v) + p.bias) + (boundP i (-4194304) 4194304)) p.fl 1048576)] [.int .i64 p.lk, .int .i64 p.leak, .int .i64 p.bias, .int .i64 p.th, .int .i64 p.rk, .int .i64 p.rs, .int .i64 p.fl, .int .i64 p.rest, .int .i64 (boundP (((leakP p s.v) + p.bias) + (boundP i (-4194304) 4194304)) p.fl 1048576), .int .i64 s.rest, .func (.func (fnK p.lk)) #[] #[]] sz_3 rfl rfl rfl (one rfl) .here rfl rfl ?_
    refine Ops.to rfl ?_
    refine Cd.seq ?_
    refine Cd.seq ?_
    refine Cd.region ?_
    refine Ops.q (q_mv rfl) ?_
    refine Ops.q (q_mv rfl) ?_
    refine Ops.q (q_nck rfl) ?_
    refine Ops.q (q_fa fo_207_0 rfl) ?_
    refine Ops.q (q_fa fo_116_3 rfl) ?_
    refine Ops.q (q_ldB isA_3 rfl .here rfl) ?_
    by_cases h7 : boundP (((leakP p s.v) + p.bias) + (boundP i (-4194304) 4194304)) p.fl 1048576 < p.th
    · refine Ops.q (q_cmp rfl rfl (c_lt h7)) ?_
      refine Ops.to rfl ?_
      refine Cd.cond_t rfl ?_
      refine Cd.seq ?_
      refine Cd.region ?_
      refine Ops.q (q_asg rfl) ?_
      refine Ops.to rfl ?_
      refine Cd.rt (fn := Try.f116) [.bool false] (by with_reducible repeat (first | exact rq_here | apply rq_then | apply rq_block)) rfl ⟨rfl, trivial⟩ ?_
      intro w' hs'
      have ht : tickP p s i = (⟨boundP (((leakP p s.v) + p.bias) + (boundP i (-4194304) 4194304)) p.fl 1048576, s.rest⟩, false) := by unfold tickP; rw [if_neg (by simp [hn0])]; simp only [tickV]; grind
      exact ⟨by rw [ht]; rfl, by rw [ht]; exact hs'⟩
    · refine Ops.q (q_cmp rfl rfl (c_nlt (by omega))) ?_
      refine Ops.to rfl ?_
      refine Cd.cond_f rfl ?_
      refine Cd.skipTo rfl ?_
      refine Cd.seq ?_
      refine Cd.draw rfl (by kernel_rfl) (.cons .here .nil) ?_
      intro F8 St9 hP10 hF11 hR12
      refine Dr.q (i := 0) hP10 rfl (by kernel_rfl) (q_mv rfl) ?_
      refine Dr.q (i := 1) hP10 rfl (by kernel_rfl) (q_mv rfl) ?_
      refine Dr.q (i := 2) hP10 rfl (by kernel_rfl) (q_nck rfl) ?_
      refine Dr.q (i := 3) hP10 rfl (by kernel_rfl) (q_fa fo_207_0 rfl) ?_
      refine Dr.q (i := 4) hP10 rfl (by kernel_rfl) (q_fa fo_116_5 rfl) ?_
      refine Dr.q (i := 5) hP10 rfl (by kernel_rfl) (q_ldB isA_3 rfl .here rfl) ?_
      refine Dr.q (i := 6) hP10 rfl (by kernel_rfl) (q_mv rfl) ?_
      refine Dr.q (i := 7) hP10 rfl (by kernel_rfl) (q_nck rfl) ?_
      refine Dr.q (i := 8) hP10 rfl (by kernel_rfl) (q_fa fo_207_0 rfl) ?_
      refine Dr.q (i := 9) hP10 rfl (by kernel_rfl) (q_fa fo_116_7 rfl) ?_
      refine Dr.q (i := 10) hP10 rfl (by kernel_rfl) (q_ldB isA_3 rfl .here rfl) ?_
      refine Dr.q (i := 11) hP10 rfl (by kernel_rfl) (q_bld [.int .i64 p.rs, .int .i64 p.rest] pls_184 zc_184 rfl rfl) ?_
      refine Dr.tail 12 (by kernel_rfl) ?_
      refine Ops.sat ?_ (fun _ hs => hR12 .here hs)
      refine Ops.q (q_nck rfl) ?_
      refine Ops.q (q_fa fo_207_1 rfl) ?_
      refine Ops.stB [.int .i64 p.rs, .int .i64 p.rest] [.int .i64 p.lk, .int .i64 p.leak, .int .i64 p.bias, .int .i64 p.th, .int .i64 p.rk, .int .i64 p.rs, .int .i64 p.fl, .int .i64 p.rest, .int .i64 p.rs, .int .i64 p.rest, .func (.func (fnK p.lk)) #[] #[]] sz_184 rfl rfl rfl (one rfl) .here rfl rfl ?_
      refine Ops.to rfl ?_
      refine Cd.seq ?_
      refine Cd.seq ?_
      refine Cd.region ?_
      refine Ops.q (q_mv rfl) ?_
      refine Ops.q (q_nck rfl) ?_
      refine Ops.q (q_fa fo_207_0 rfl) ?_
      refine Ops.q (q_fa fo_116_4 rfl) ?_
      refine Ops.q (q_ldB isA_3 rfl .here rfl) ?_
      by_cases h13 : p.rk = 1
      · refine Ops.q (q_cmp rfl rfl (c_eq h13)) ?_
        refine Ops.to rfl ?_
        refine Cd.cond_t rfl ?_
        refine Cd.region ?_
        refine Ops.q (q_mv rfl) ?_
        refine Ops.q (q_mv rfl) ?_
        refine Ops.q (q_mv rfl) ?_
        refine Ops.q (q_nck rfl) ?_
        refine Ops.q (q_fa fo_207_0 rfl) ?_
        refine Ops.q (q_fa fo_116_3 rfl) ?_
        refine Ops.q (q_ldB isA_3 rfl .here rfl) ?_
        refine Ops.q (q_ar rfl rfl (a_sub (by omega))) ?_
        refine Ops.q (q_nck rfl) ?_
        refine Ops.q (q_fa fo_207_1 rfl) ?_
        refine Ops.q (q_fa fo_184_0 rfl) ?_
        refine Ops.stB [.int .i64 ((boundP (((leakP p s.v) + p.bias) + (boundP i (-4194304) 4194304)) p.fl 1048576) - p.th)] [.int .i64 p.lk, .int .i64 p.leak, .int .i64 p.bias, .int .i64 p.th, .int .i64 p.rk, .int .i64 p.rs, .int .i64 p.fl, .int .i64 p.rest, .int .i64 ((boundP (((leakP p s.v) + p.bias) + (boundP i (-4194304) 4194304)) p.fl 1048576) - p.th), .int .i64 p.rest, .func (.func (fnK p.lk)) #[] #[]] sz_3 rfl rfl rfl (one rfl) .here rfl rfl ?_
        refine Ops.to rfl ?_
        refine Cd.seq ?_
        refine Cd.region ?_
        refine Ops.q (q_asg rfl) ?_
        refine Ops.to rfl ?_
        refine Cd.rt (fn := Try.f116) [.bool true] (by with_reducible repeat (first | exact rq_here | apply rq_then | apply rq_block)) rfl ⟨rfl, trivial⟩ ?_
        intro w' hs'
        have ht : tickP p s i = (⟨(boundP (((leakP p s.v) + p.bias) + (boundP i (-4194304) 4194304)) p.fl 1048576) - p.th, p.rest⟩, true) := by unfold tickP; rw [if_neg (by simp [hn0])]; simp only [tickV]; grind
        exact ⟨by rw [ht]; rfl, by rw [ht]; exact hs'⟩
      · refine Ops.q (q_cmp rfl rfl (c_neq h13)) ?_
        refine Ops.to rfl ?_
        refine Cd.cond_f rfl ?_
        refine Cd.skipTo rfl ?_
        refine Cd.seq ?_
        refine Cd.region ?_
        refine Ops.q (q_asg rfl) ?_
        refine Ops.to rfl ?_
        refine Cd.rt (fn := Try.f116) [.bool true] (by with_reducible repeat (first | exact rq_here | apply rq_then | apply rq_block)) rfl ⟨rfl, trivial⟩ ?_
        intro w' hs'
        have ht : tickP p s i = (⟨p.rs, p.rest⟩, true) := by unfold tickP; rw [if_neg (by simp [hn0])]; simp only [tickV]; grind
        exact ⟨by rw [ht]; rfl, by rw [ht]; exact hs'⟩
theorem tick_ok (p : Prm) (s : Stt) (i : Int) (w : World) (h : nValid p s = 0) : Calls Try.prog 100 [.agg (ePrm p).toArray, .agg (eStt s).toArray, .int .i64 i].toArray w fun e w' => e = .returned (.tuple [.agg (eStt (tickP p s i).1).toArray, .bool (tickP p s i).2, .int .i64 (nValid p s)].toArray) ∧ Sat w w' [] := by
  refine fstart Try.func100 rfl rfl (Sat.nil w) ?_
  refine Cd.seq ?_
  refine Cd.region ?_
  refine Ops.box [.int .i64 p.lk, .int .i64 p.leak, .int .i64 p.bias, .int .i64 p.th, .int .i64 p.rk, .int .i64 p.rs, .int .i64 p.fl, .int .i64 p.rest] rfl rfl ?_
  intro b1
  refine Ops.box [.int .i64 s.v, .int .i64 s.rest] rfl rfl ?_
  intro b2
  refine Ops.alc [.int .i64 0, .int .i64 0] zc_184 ?_
  intro b3
  refine Ops.q (q_asg rfl) ?_
  refine Ops.q (q_asg rfl) ?_
  refine Ops.to rfl ?_
  refine Cd.seq ?_
  refine Cd.region ?_
  refine Ops.q (q_ldBN [.int .i64 p.lk, .int .i64 p.leak, .int .i64 p.bias, .int .i64 p.th, .int .i64 p.rk, .int .i64 p.rs, .int .i64 p.fl, .int .i64 p.rest] isA_116 sz_116 rfl (.there (.there .here)) rfl) ?_
  refine Ops.q (q_ldBN [.int .i64 s.v, .int .i64 s.rest] isA_184 sz_184 rfl (.there .here) rfl) ?_
  refine Ops.cl en_115 rfl (fun w hs => newCell_ok p s w h) ?_
  intro b4
  refine Ops.q (q_mv rfl) ?_
  refine Ops.q (q_ext rfl rfl) ?_
  refine Ops.q (q_ext rfl rfl) ?_
  refine Ops.q (q_asg rfl) ?_
  refine Ops.q (q_asg rfl) ?_
  refine Ops.to rfl ?_
  refine Cd.seq ?_
  refine Cd.seq ?_
  refine Cd.region ?_
  refine Ops.q (q_mv rfl) ?_
  refine Ops.q (q_cmp rfl rfl (c_nne (by decide))) ?_
  refine Ops.to rfl ?_
  refine Cd.cond_f rfl ?_
  refine Cd.skipTo rfl ?_
  refine Cd.seq ?_
  refine Cd.region ?_
  refine Ops.q (q_mv rfl) ?_
  refine Ops.q (q_mv rfl) ?_
  refine Ops.cm (α := Unit) (v := fun _ => .bool (tickP p s i).2) (A' := fun _ => [blk b4 207 [.int .i64 p.lk, .int .i64 p.leak, .int .i64 p.bias, .int .i64 p.th, .int .i64 p.rk, .int .i64 p.rs, .int .i64 p.fl, .int .i64 p.rest, .int .i64 ((tickP p s i).1.v), .int .i64 ((tickP p s i).1.rest), .func (.func (fnK p.lk)) #[] #[]], blk b3 184 [.int .i64 0, .int .i64 0], blk b2 184 [.int .i64 s.v, .int .i64 s.rest], blk b1 116 [.int .i64 p.lk, .int .i64 p.leak, .int .i64 p.bias, .int .i64 p.th, .int .i64 p.rk, .int .i64 p.rs, .int .i64 p.fl, .int .i64 p.rest]]) en_116 rfl (fun w hs => (ctick_c _ p s i _ w _ h hs).mono fun e w' he => ⟨(), he⟩) ?_
  intro _
  refine Ops.q (q_asg rfl) ?_
  refine Ops.to rfl ?_
  refine Cd.seq ?_
  refine Cd.region ?_
  refine Ops.q (q_mv rfl) ?_
  refine Ops.q (q_nck rfl) ?_
  refine Ops.q (q_fa fo_207_1 rfl) ?_
  refine Ops.q (q_ldBN [.int .i64 ((tickP p s i).1.v), .int .i64 ((tickP p s i).1.rest)] isA_184 sz_184 rfl .here rfl) ?_
  refine Ops.q (q_mv rfl) ?_
  refine Ops.stB [.int .i64 ((tickP p s i).1.v), .int .i64 ((tickP p s i).1.rest)] [.int .i64 ((tickP p s i).1.v), .int .i64 ((tickP p s i).1.rest)] sz_184 rfl rfl rfl (one rfl) (.there .here) rfl rfl ?_
  refine Ops.q (q_asg rfl) ?_
  refine Ops.q (q_asg rfl) ?_
  refine Ops.to rfl ?_
  refine Cd.rt (fn := Try.f100) [.agg [.int .i64 ((tickP p s i).1.v), .int .i64 ((tickP p s i).1.rest)].toArray, .bool ((tickP p s i).2), .int .i64 0] (by with_reducible repeat (first | exact rq_here | apply rq_then | apply rq_block)) rfl ⟨⟨_, _, rfl, fun _ hs => run_loadN isA_184 sz_184 (fun o u hu => Sat.atB (.there .here) (by rw [Nat.zero_add]; exact hu) hs)⟩, rfl, rfl, trivial⟩ ?_
  intro w' hs
  exact ⟨by rw [h]; rfl, hs.none⟩
theorem tick_err (p : Prm) (s : Stt) (i : Int) (w : World) (h : nValid p s ≠ 0) : Calls Try.prog 100 [.agg (ePrm p).toArray, .agg (eStt s).toArray, .int .i64 i].toArray w fun e w' => e = .returned (.tuple [.agg (eStt (tickP p s i).1).toArray, .bool (tickP p s i).2, .int .i64 (nValid p s)].toArray) ∧ Sat w w' [] := by
  refine fstart Try.func100 rfl rfl (Sat.nil w) ?_
  refine Cd.seq ?_
  refine Cd.region ?_
  refine Ops.box [.int .i64 p.lk, .int .i64 p.leak, .int .i64 p.bias, .int .i64 p.th, .int .i64 p.rk, .int .i64 p.rs, .int .i64 p.fl, .int .i64 p.rest] rfl rfl ?_
  intro b1
  refine Ops.box [.int .i64 s.v, .int .i64 s.rest] rfl rfl ?_
  intro b2
  refine Ops.alc [.int .i64 0, .int .i64 0] zc_184 ?_
  intro b3
  refine Ops.q (q_asg rfl) ?_
  refine Ops.q (q_asg rfl) ?_
  refine Ops.to rfl ?_
  refine Cd.seq ?_
  refine Cd.region ?_
  refine Ops.q (q_ldBN [.int .i64 p.lk, .int .i64 p.leak, .int .i64 p.bias, .int .i64 p.th, .int .i64 p.rk, .int .i64 p.rs, .int .i64 p.fl, .int .i64 p.rest] isA_116 sz_116 rfl (.there (.there .here)) rfl) ?_
  refine Ops.q (q_ldBN [.int .i64 s.v, .int .i64 s.rest] isA_184 sz_184 rfl (.there .here) rfl) ?_
  refine Ops.cp en_115 rfl (fun w hs => newCell_err p s w h) ?_
  refine Ops.q (q_mv rfl) ?_
  refine Ops.q (q_ext rfl rfl) ?_
  refine Ops.q (q_ext rfl rfl) ?_
  refine Ops.q (q_asg rfl) ?_
  refine Ops.q (q_asg rfl) ?_
  refine Ops.to rfl ?_
  refine Cd.seq ?_
  refine Cd.seq ?_
  refine Cd.region ?_
  refine Ops.q (q_mv rfl) ?_
  refine Ops.q (q_cmp rfl rfl (c_ne h)) ?_
  refine Ops.to rfl ?_
  refine Cd.cond_t rfl ?_
  refine Cd.seq ?_
  refine Cd.region ?_
  refine Ops.q (q_bld [.int .i64 0, .int .i64 0] pls_184 zc_184 rfl rfl) ?_
  refine Ops.q (q_mv rfl) ?_
  refine Ops.stB [.int .i64 0, .int .i64 0] [.int .i64 0, .int .i64 0] sz_184 rfl rfl rfl (one rfl) .here rfl rfl ?_
  refine Ops.q (q_asg rfl) ?_
  refine Ops.q (q_asg rfl) ?_
  refine Ops.to rfl ?_
  refine Cd.rt (fn := Try.f100) [.agg [.int .i64 0, .int .i64 0].toArray, .bool false, .int .i64 (nValid p s)] (by with_reducible repeat (first | exact rq_here | apply rq_then | apply rq_block)) rfl ⟨⟨_, _, rfl, fun _ hs => run_loadN isA_184 sz_184 (fun o u hu => Sat.atB .here (by rw [Nat.zero_add]; exact hu) hs)⟩, rfl, rfl, trivial⟩ ?_
  intro w' hs
  exact ⟨by simp [joinV, tickP, h, eStt], hs.none⟩
theorem tick_c (p : Prm) (s : Stt) (i : Int) (w : World) : Calls Try.prog 100 [.agg (ePrm p).toArray, .agg (eStt s).toArray, .int .i64 i].toArray w fun e w' => e = .returned (.tuple [.agg (eStt (tickP p s i).1).toArray, .bool (tickP p s i).2, .int .i64 (nValid p s)].toArray) ∧ Sat w w' [] :=
  if h : nValid p s = 0 then tick_ok p s i w h else tick_err p s i w h
end Go.Proofs.Ytilcdghliigngaa
namespace Go.Proofs.Ytilcdghliigngaa
open Go.RowKit Go.Proofs.YtilcdghliigngaaGl Go.Proofs.YtilcdghliigngaaPm
set_option linter.unusedVariables false
set_option linter.unusedSimpArgs false
theorem source_c (na : Option Addr) (nc : Nat) (sa : Option Addr) (sc : Nat) (ns : List Prm) (ip : Int) (ss : List Syn) (id : Int) (w : World) (hip : -1000 ≤ ip ∧ ip ≤ 1000) (hn : ns.length < 100000) : Calls Try.prog 73 [.agg [.slice na ns.length nc, .int .i64 ip, .slice sa ss.length sc].toArray, .int .i64 id].toArray w fun e w' => e = .returned (.bool (decide (wi id (-ip) ((ns.length : Int) - 1)))) ∧ Sat w w' [] := by
  refine fstart Try.func73 rfl rfl (Sat.nil w) ?_
  refine Cd.seq ?_
  refine Cd.region ?_
  refine Ops.box [.slice na ns.length nc, .int .i64 ip, .slice sa ss.length sc] rfl rfl ?_
  intro b1
  refine Ops.q (q_asg rfl) ?_
  refine Ops.to rfl ?_
  refine Cd.seq ?_
  refine Cd.region ?_
  refine Ops.q (q_mv rfl) ?_
  refine Ops.q (q_fa fo_32_1 rfl) ?_
  refine Ops.q (q_ldB isA_3 rfl .here rfl) ?_
  refine Ops.q (q_neg rfl (a_sub (by omega))) ?_
  refine Ops.q (q_fa fo_32_0 rfl) ?_
  refine Ops.q (q_ldB isA_29 rfl .here rfl) ?_
  refine Ops.q (q_len esz_29 rfl) ?_
  refine Ops.q (q_ar rfl rfl (a_sub (by omega))) ?_
  refine Ops.cp en_74 rfl (fun w hs => nwithin_c _ _ _ w) ?_
  refine Ops.q (q_asg rfl) ?_
  refine Ops.to rfl ?_
  refine Cd.rt (fn := Try.f73) [.bool (decide (wi id (0 - ip) ((ns.length : Int) - 1)))] (by with_reducible repeat (first | exact rq_here | apply rq_then | apply rq_block)) rfl ⟨rfl, trivial⟩ ?_
  intro w' hs
  exact ⟨by simp only [joinV, Int.zero_sub], hs.none⟩
theorem check_c (na : Option Addr) (nc : Nat) (sa : Option Addr) (sc : Nat) (ns : List Prm) (ip : Int) (ss : List Syn) (w : World) (hN : RoL w na ePrm ns) (hS : RoL w sa eSyn ss) : Calls Try.prog 35 [.agg [.slice na ns.length nc, .int .i64 ip, .slice sa ss.length sc].toArray].toArray w fun e w' => e = .returned (.int .i64 (netCheck ⟨ns, ip, ss⟩)) ∧ Sat w w' [] := by
  refine fstart Try.func35 rfl rfl (Sat.nil w) ?_
  refine Cd.seq ?_
  refine Cd.region ?_
  refine Ops.box [.slice na ns.length nc, .int .i64 ip, .slice sa ss.length sc] rfl rfl ?_
  intro b1
  refine Ops.q (q_asg rfl) ?_
  refine Ops.to rfl ?_
  refine Cd.seq ?_
  refine Cd.block ?_
  refine Cd.seq ?_
  refine Cd.region ?_
  refine Ops.q (q_fa fo_32_0 rfl) ?_
  refine Ops.q (q_ldB isA_29 rfl .here rfl) ?_
  refine Ops.q (q_len esz_29 rfl) ?_
  by_cases h2 : (ns.length : Int) = 0
  · refine Ops.q (q_cmp rfl rfl (c_eq h2)) ?_
    refine Ops.q (q_asg rfl) ?_
    refine Ops.to rfl ?_
    refine Cd.cond_t rfl ?_
    refine Cd.seq ?_
    refine Cd.region ?_
    refine Ops.q (q_asg rfl) ?_
    refine Ops.to rfl ?_
    refine Cd.rt (fn := Try.f35) [.int .i64 2] (by with_reducible repeat (first | exact rq_here | apply rq_then | apply rq_block)) rfl ⟨rfl, trivial⟩ ?_
    intro w' hs'
    exact ⟨by simp only [joinV]; unfold netCheck; grind, hs'.none⟩
  · refine Ops.q (q_cmp rfl rfl (c_neq h2)) ?_
    refine Ops.q (q_asg rfl) ?_
    refine Ops.to rfl ?_
    refine Cd.cond_f rfl ?_
    refine Cd.seq ?_
    refine Cd.region ?_
    refine Ops.q (q_fa fo_32_0 rfl) ?_
    refine Ops.q (q_ldB isA_29 rfl .here rfl) ?_
    refine Ops.q (q_len esz_29 rfl) ?_
    by_cases h3 : 1024 < (ns.length : Int)
    · refine Ops.q (q_cmp rfl rfl (c_gt h3)) ?_
      refine Ops.q (q_mv rfl) ?_
      refine Ops.sk ?_
      refine Ops.sk ?_
      refine Ops.sk ?_
      refine Ops.q (q_pickT rfl rfl) ?_
      refine Ops.q (q_mv rfl) ?_
      refine Ops.sk ?_
      refine Ops.sk ?_
      refine Ops.sk ?_
      refine Ops.sk ?_
      refine Ops.q (q_pickT rfl rfl) ?_
      refine Ops.q (q_asg rfl) ?_
      refine Ops.to rfl ?_
      refine Cd.cond_t rfl ?_
      refine Cd.seq ?_
      refine Cd.region ?_
      refine Ops.q (q_asg rfl) ?_
      refine Ops.to rfl ?_
      refine Cd.rt (fn := Try.f35) [.int .i64 9] (by with_reducible repeat (first | exact rq_here | apply rq_then | apply rq_block)) rfl ⟨rfl, trivial⟩ ?_
      intro w' hs'
      exact ⟨by simp only [joinV]; unfold netCheck; grind, hs'.none⟩
    · refine Ops.q (q_cmp rfl rfl (c_ngt (by omega))) ?_
      refine Ops.q (q_mv rfl) ?_
      refine Ops.q (q_fa fo_32_1 rfl) ?_
      refine Ops.q (q_ldB isA_3 rfl .here rfl) ?_
      by_cases h4 : 256 < ip
      · refine Ops.q (q_cmp rfl rfl (c_gt h4)) ?_
        refine Ops.q (q_pickF rfl rfl) ?_
        refine Ops.q (q_mv rfl) ?_
        refine Ops.sk ?_
        refine Ops.sk ?_
        refine Ops.sk ?_
        refine Ops.sk ?_
        refine Ops.q (q_pickT rfl rfl) ?_
        refine Ops.q (q_asg rfl) ?_
        refine Ops.to rfl ?_
        refine Cd.cond_t rfl ?_
        refine Cd.seq ?_
        refine Cd.region ?_
        refine Ops.q (q_asg rfl) ?_
        refine Ops.to rfl ?_
        refine Cd.rt (fn := Try.f35) [.int .i64 9] (by with_reducible repeat (first | exact rq_here | apply rq_then | apply rq_block)) rfl ⟨rfl, trivial⟩ ?_
        intro w' hs'
        exact ⟨by simp only [joinV]; unfold netCheck; grind, hs'.none⟩
      · refine Ops.q (q_cmp rfl rfl (c_ngt (by omega))) ?_
        refine Ops.q (q_pickF rfl rfl) ?_
        refine Ops.q (q_mv rfl) ?_
        refine Ops.q (q_fa fo_32_2 rfl) ?_
        refine Ops.q (q_ldB isA_30 rfl .here rfl) ?_
        refine Ops.q (q_len esz_30 rfl) ?_
        by_cases h5 : 8192 < (ss.length : Int)
        · refine Ops.q (q_cmp rfl rfl (c_gt h5)) ?_
          refine Ops.q (q_pickF rfl rfl) ?_
          refine Ops.q (q_asg rfl) ?_
          refine Ops.to rfl ?_
          refine Cd.cond_t rfl ?_
          refine Cd.seq ?_
          refine Cd.region ?_
          refine Ops.q (q_asg rfl) ?_
          refine Ops.to rfl ?_
          refine Cd.rt (fn := Try.f35) [.int .i64 9] (by with_reducible repeat (first | exact rq_here | apply rq_then | apply rq_block)) rfl ⟨rfl, trivial⟩ ?_
          intro w' hs'
          exact ⟨by simp only [joinV]; unfold netCheck; grind, hs'.none⟩
        · refine Ops.q (q_cmp rfl rfl (c_ngt (by omega))) ?_
          refine Ops.q (q_pickF rfl rfl) ?_
          refine Ops.q (q_asg rfl) ?_
          refine Ops.to rfl ?_
          refine Cd.cond_f rfl ?_
          refine Cd.seq ?_
          refine Cd.region ?_
          refine Ops.q (q_fa fo_32_1 rfl) ?_
          refine Ops.q (q_ldB isA_3 rfl .here rfl) ?_
          by_cases h6 : ip < 0
          · refine Ops.q (q_cmp rfl rfl (c_lt h6)) ?_
            refine Ops.q (q_asg rfl) ?_
            refine Ops.to rfl ?_
            refine Cd.cond_t rfl ?_
            refine Cd.seq ?_
            refine Cd.region ?_
            refine Ops.q (q_asg rfl) ?_
            refine Ops.to rfl ?_
            refine Cd.rt (fn := Try.f35) [.int .i64 3] (by with_reducible repeat (first | exact rq_here | apply rq_then | apply rq_block)) rfl ⟨rfl, trivial⟩ ?_
            intro w' hs'
            exact ⟨by simp only [joinV]; unfold netCheck; grind, hs'.none⟩
          · refine Ops.q (q_cmp rfl rfl (c_nlt (by omega))) ?_
            refine Ops.q (q_asg rfl) ?_
            refine Ops.to rfl ?_
            refine Cd.cond_f rfl ?_
            refine Cd.skipTo rfl ?_
            refine Cd.seq ?_
            refine Cd.seq ?_
            refine Cd.region ?_
            refine Ops.q (q_fa fo_32_0 rfl) ?_
            refine Ops.q (q_ldB isA_29 rfl .here rfl) ?_
            refine Ops.q (q_len esz_29 rfl) ?_
            refine Ops.q (q_mv rfl) ?_
            refine Ops.to rfl ?_
            refine Cd.block ?_
            refine Cd.lp (σ := Nat) (fun k => k ≤ ns.length ∧ firstE nCheck (ns.drop k) = firstE nCheck ns) (fun k => [(1, .pointer (some ⟨b1, 0, none⟩)), (34, .slice na ns.length nc), (35, .int .i64 (ns.length : Int)), (36, .int .i64 (k : Int))]) (fun k => [blk b1 32 [.slice na ns.length nc, .int .i64 ip, .slice sa ss.length sc]]) (fun k => ns.length - k) 0 ⟨Nat.zero_le _, rfl⟩ ⟨rfl, rfl, rfl, rfl, trivial⟩ (fun _ hs => hs) ?_
            intro k hI
            have hI1 := hI.1
            refine Cd.seq ?_
            refine Cd.region ?_
            by_cases hk1 : (k : Int) < (ns.length : Int)
            · refine Ops.q (q_cmp rfl rfl (c_lt hk1)) ?_
              obtain ⟨x7, hx8⟩ : ∃ x, ns[k]? = some x := ⟨_, List.getElem?_eq_getElem (by omega)⟩
              obtain ⟨ab9, ao10, rfl⟩ := RoL.pos hN ePrm_len hx8
              refine Ops.to rfl ?_
              refine Cd.seq ?_
              refine Cd.cond_t rfl ?_
              refine Cd.skipTo rfl ?_
              refine Cd.seq ?_
              refine Cd.block ?_
              refine Cd.seq ?_
              refine Cd.region ?_
              refine Ops.q (q_ix (k := k) esz_29 rfl rfl (by omega)) ?_
              refine Ops.q (q_ldRN [.int .i64 x7.lk, .int .i64 x7.leak, .int .i64 x7.bias, .int .i64 x7.th, .int .i64 x7.rk, .int .i64 x7.rs, .int .i64 x7.fl, .int .i64 x7.rest] isA_116 sz_116 rfl (fun j u hu => hN.at ePrm_len hx8 hu)) ?_
              refine Ops.alc [.int .i64 0, .int .i64 0, .int .i64 0, .int .i64 0, .int .i64 0, .int .i64 0, .int .i64 0, .int .i64 0] zc_116 ?_
              intro b11
              refine Ops.stB [.int .i64 x7.lk, .int .i64 x7.leak, .int .i64 x7.bias, .int .i64 x7.th, .int .i64 x7.rk, .int .i64 x7.rs, .int .i64 x7.fl, .int .i64 x7.rest] [.int .i64 x7.lk, .int .i64 x7.leak, .int .i64 x7.bias, .int .i64 x7.th, .int .i64 x7.rk, .int .i64 x7.rs, .int .i64 x7.fl, .int .i64 x7.rest] sz_116 rfl rfl rfl (one rfl) .here rfl rfl ?_
              refine Ops.to rfl ?_
              refine Cd.seq ?_
              refine Cd.region ?_
              refine Ops.q (q_ldBN [.int .i64 x7.lk, .int .i64 x7.leak, .int .i64 x7.bias, .int .i64 x7.th, .int .i64 x7.rk, .int .i64 x7.rs, .int .i64 x7.fl, .int .i64 x7.rest] isA_116 sz_116 rfl .here rfl) ?_
              refine Ops.cp en_72 rfl (fun w hs => ncheck_c x7 w) ?_
              refine Ops.q (q_asg rfl) ?_
              refine Ops.to rfl ?_
              refine Cd.seq ?_
              refine Cd.region ?_
              refine Ops.q (q_mv rfl) ?_
              by_cases h12 : nCheck x7 = 0
              · refine Ops.q (q_cmp rfl rfl (c_nne h12)) ?_
                refine Ops.to rfl ?_
                refine Cd.cond_f rfl ?_
                refine Cd.skipTo rfl ?_
                refine Cd.region ?_
                refine Ops.q (q_ar rfl rfl (a_inc (by omega))) ?_
                refine Ops.q (q_mv rfl) ?_
                refine Ops.rnd (k + 1) rfl (⟨by omega, by rw [← hI.2]; exact (firstE_step hx8 (by omega)).symm⟩) (by omega) ⟨rfl, rfl, rfl, rfl, trivial⟩ (fun _ hs => (hs.pull .here).drop) 
              · refine Ops.q (q_cmp rfl rfl (c_ne h12)) ?_
                refine Ops.to rfl ?_
                refine Cd.cond_t rfl ?_
                refine Cd.seq ?_
                refine Cd.region ?_
                refine Ops.q (q_mv rfl) ?_
                refine Ops.q (q_asg rfl) ?_
                refine Ops.to rfl ?_
                refine Cd.rt (fn := Try.f35) [.int .i64 (nCheck x7)] (by with_reducible repeat (first | exact rq_here | apply rq_then | apply rq_block)) rfl ⟨rfl, trivial⟩ ?_
                intro w' hs'
                exact ⟨by simp only [joinV]; unfold netCheck; have := firstE_stop hx8 (by assumption); grind, hs'.none⟩
            · refine Ops.q (q_cmp rfl rfl (c_nlt (by omega))) ?_
              have hz := firstE_end (f := nCheck) (show ns.length ≤ k by omega)
              refine Ops.to rfl ?_
              refine Cd.seq ?_
              refine Cd.cond_f rfl ?_
              refine Cd.exitTo rfl ?_
              refine Cd.seq ?_
              refine Cd.seq ?_
              refine Cd.region ?_
              refine Ops.q (q_fa fo_32_2 rfl) ?_
              refine Ops.q (q_ldB isA_30 rfl .here rfl) ?_
              refine Ops.q (q_len esz_30 rfl) ?_
              refine Ops.q (q_mv rfl) ?_
              refine Ops.to rfl ?_
              refine Cd.block ?_
              refine Cd.lp (σ := Nat) (fun k => k ≤ ss.length ∧ firstE (synE ns.length ip) (ss.drop k) = firstE (synE ns.length ip) ss) (fun k => [(1, .pointer (some ⟨b1, 0, none⟩)), (47, .slice sa ss.length sc), (48, .int .i64 (ss.length : Int)), (49, .int .i64 (k : Int))]) (fun k => [blk b1 32 [.slice na ns.length nc, .int .i64 ip, .slice sa ss.length sc]]) (fun k => ss.length - k) 0 ⟨Nat.zero_le _, rfl⟩ ⟨rfl, rfl, rfl, rfl, trivial⟩ (fun _ hs => hs) ?_
              intro k hI
              have hI1 := hI.1
              refine Cd.seq ?_
              refine Cd.region ?_
              by_cases hk3 : (k : Int) < (ss.length : Int)
              · refine Ops.q (q_cmp rfl rfl (c_lt hk3)) ?_
                obtain ⟨x13, hx14⟩ : ∃ x, ss[k]? = some x := ⟨_, List.getElem?_eq_getElem (by omega)⟩
                obtain ⟨ab15, ao16, rfl⟩ := RoL.pos hS eSyn_len hx14
                refine Ops.to rfl ?_
                refine Cd.seq ?_
                refine Cd.cond_t rfl ?_
                refine Cd.skipTo rfl ?_
                refine Cd.seq ?_
                refine Cd.block ?_
                refine Cd.seq ?_
                refine Cd.region ?_
                refine Ops.q (q_ix (k := k) esz_30 rfl rfl (by omega)) ?_
                refine Ops.q (q_ldRN [.int .i64 x13.src, .int .i64 x13.dst, .int .i64 x13.wt, .int .i64 x13.dl] isA_126 sz_126 rfl (fun j u hu => hS.at eSyn_len hx14 hu)) ?_
                refine Ops.alc [.int .i64 0, .int .i64 0, .int .i64 0, .int .i64 0] zc_126 ?_
                intro b17
                refine Ops.stB [.int .i64 x13.src, .int .i64 x13.dst, .int .i64 x13.wt, .int .i64 x13.dl] [.int .i64 x13.src, .int .i64 x13.dst, .int .i64 x13.wt, .int .i64 x13.dl] sz_126 rfl rfl rfl (one rfl) .here rfl rfl ?_
                refine Ops.to rfl ?_
                refine Cd.seq ?_
                refine Cd.region ?_
                refine Ops.q (q_ldBN [.slice na ns.length nc, .int .i64 ip, .slice (some ⟨ab15, ao16, none⟩) ss.length sc] isA_32 sz_32 rfl (.there .here) rfl) ?_
                refine Ops.q (q_fa fo_126_0 rfl) ?_
                refine Ops.q (q_ldB isA_3 rfl .here rfl) ?_
                by_cases h18 : wi x13.src (-ip) ((ns.length : Int) - 1)
                · refine Ops.cp en_73 rfl (fun w hs => dT (source_c _ _ _ _ ns ip ss x13.src w (by omega) (by omega)) h18) ?_
                  refine Ops.q (q_not rfl) ?_
                  refine Ops.q (q_mv rfl) ?_
                  refine Ops.q (q_fa fo_126_1 rfl) ?_
                  refine Ops.q (q_ldB isA_3 rfl .here rfl) ?_
                  refine Ops.q (q_fa fo_32_0 rfl) ?_
                  refine Ops.q (q_ldB isA_29 rfl (.there .here) rfl) ?_
                  refine Ops.q (q_len esz_29 rfl) ?_
                  refine Ops.q (q_ar rfl rfl (a_sub (by omega))) ?_
                  by_cases h19 : wi x13.dst 0 ((ns.length : Int) - 1)
                  · refine Ops.cp en_74 rfl (fun w hs => dT (nwithin_c _ _ _ w) h19) ?_
                    refine Ops.q (q_not rfl) ?_
                    refine Ops.q (q_pickF rfl rfl) ?_
                    refine Ops.q (q_mv rfl) ?_
                    refine Ops.q (q_fa fo_126_2 rfl) ?_
                    refine Ops.q (q_ldB isA_3 rfl .here rfl) ?_
                    by_cases h20 : wi x13.wt (-32768) 32768
                    · refine Ops.cp en_74 rfl (fun w hs => dT (nwithin_c _ _ _ w) h20) ?_
                      refine Ops.q (q_not rfl) ?_
                      refine Ops.q (q_pickF rfl rfl) ?_
                      refine Ops.q (q_mv rfl) ?_
                      refine Ops.q (q_fa fo_126_3 rfl) ?_
                      refine Ops.q (q_ldB isA_3 rfl .here rfl) ?_
                      by_cases h21 : wi x13.dl 1 16
                      · refine Ops.cp en_74 rfl (fun w hs => dT (nwithin_c _ _ _ w) h21) ?_
                        refine Ops.q (q_not rfl) ?_
                        refine Ops.q (q_pickF rfl rfl) ?_
                        refine Ops.to rfl ?_
                        refine Cd.cond_f rfl ?_
                        refine Cd.skipTo rfl ?_
                        refine Cd.region ?_
                        refine Ops.q (q_ar rfl rfl (a_inc (by omega))) ?_
                        refine Ops.q (q_mv rfl) ?_
                        refine Ops.rnd (k + 1) rfl (⟨by omega, by rw [← hI.2]; exact (firstE_step hx14 (by unfold synE; rw [if_pos ⟨by assumption, by assumption, by assumption, by assumption⟩])).symm⟩) (by omega) ⟨rfl, rfl, rfl, rfl, trivial⟩ (fun _ hs => (hs.pull .here).drop) 
                      · refine Ops.cp en_74 rfl (fun w hs => dF (nwithin_c _ _ _ w) h21) ?_
                        refine Ops.q (q_not rfl) ?_
                        refine Ops.q (q_pickF rfl rfl) ?_
                        refine Ops.to rfl ?_
                        refine Cd.cond_t rfl ?_
                        refine Cd.seq ?_
                        refine Cd.region ?_
                        refine Ops.q (q_asg rfl) ?_
                        refine Ops.to rfl ?_
                        refine Cd.rt (fn := Try.f35) [.int .i64 3] (by with_reducible repeat (first | exact rq_here | apply rq_then | apply rq_block)) rfl ⟨rfl, trivial⟩ ?_
                        intro w' hs'
                        exact ⟨by simp only [joinV]; have h8 : synE ns.length ip x13 = 3 := by { unfold synE; rw [if_neg (by grind)] }; have := firstE_stop (f := synE ns.length ip) hx14 (by omega); unfold netCheck; grind, hs'.none⟩
                    · refine Ops.cp en_74 rfl (fun w hs => dF (nwithin_c _ _ _ w) h20) ?_
                      refine Ops.q (q_not rfl) ?_
                      refine Ops.q (q_pickF rfl rfl) ?_
                      refine Ops.q (q_mv rfl) ?_
                      refine Ops.sk ?_
                      refine Ops.sk ?_
                      refine Ops.sk ?_
                      refine Ops.sk ?_
                      refine Ops.q (q_pickT rfl rfl) ?_
                      refine Ops.to rfl ?_
                      refine Cd.cond_t rfl ?_
                      refine Cd.seq ?_
                      refine Cd.region ?_
                      refine Ops.q (q_asg rfl) ?_
                      refine Ops.to rfl ?_
                      refine Cd.rt (fn := Try.f35) [.int .i64 3] (by with_reducible repeat (first | exact rq_here | apply rq_then | apply rq_block)) rfl ⟨rfl, trivial⟩ ?_
                      intro w' hs'
                      exact ⟨by simp only [joinV]; have h8 : synE ns.length ip x13 = 3 := by { unfold synE; rw [if_neg (by grind)] }; have := firstE_stop (f := synE ns.length ip) hx14 (by omega); unfold netCheck; grind, hs'.none⟩
                  · refine Ops.cp en_74 rfl (fun w hs => dF (nwithin_c _ _ _ w) h19) ?_
                    refine Ops.q (q_not rfl) ?_
                    refine Ops.q (q_pickF rfl rfl) ?_
                    refine Ops.q (q_mv rfl) ?_
                    refine Ops.sk ?_
                    refine Ops.sk ?_
                    refine Ops.sk ?_
                    refine Ops.sk ?_
                    refine Ops.q (q_pickT rfl rfl) ?_
                    refine Ops.q (q_mv rfl) ?_
                    refine Ops.sk ?_
                    refine Ops.sk ?_
                    refine Ops.sk ?_
                    refine Ops.sk ?_
                    refine Ops.q (q_pickT rfl rfl) ?_
                    refine Ops.to rfl ?_
                    refine Cd.cond_t rfl ?_
                    refine Cd.seq ?_
                    refine Cd.region ?_
                    refine Ops.q (q_asg rfl) ?_
                    refine Ops.to rfl ?_
                    refine Cd.rt (fn := Try.f35) [.int .i64 3] (by with_reducible repeat (first | exact rq_here | apply rq_then | apply rq_block)) rfl ⟨rfl, trivial⟩ ?_
                    intro w' hs'
                    exact ⟨by simp only [joinV]; have h8 : synE ns.length ip x13 = 3 := by { unfold synE; rw [if_neg (by grind)] }; have := firstE_stop (f := synE ns.length ip) hx14 (by omega); unfold netCheck; grind, hs'.none⟩
                · refine Ops.cp en_73 rfl (fun w hs => dF (source_c _ _ _ _ ns ip ss x13.src w (by omega) (by omega)) h18) ?_
                  refine Ops.q (q_not rfl) ?_
                  refine Ops.q (q_mv rfl) ?_
                  refine Ops.sk ?_
                  refine Ops.sk ?_
                  refine Ops.sk ?_
                  refine Ops.sk ?_
                  refine Ops.sk ?_
                  refine Ops.sk ?_
                  refine Ops.sk ?_
                  refine Ops.sk ?_
                  refine Ops.q (q_pickT rfl rfl) ?_
                  refine Ops.q (q_mv rfl) ?_
                  refine Ops.sk ?_
                  refine Ops.sk ?_
                  refine Ops.sk ?_
                  refine Ops.sk ?_
                  refine Ops.q (q_pickT rfl rfl) ?_
                  refine Ops.q (q_mv rfl) ?_
                  refine Ops.sk ?_
                  refine Ops.sk ?_
                  refine Ops.sk ?_
                  refine Ops.sk ?_
                  refine Ops.q (q_pickT rfl rfl) ?_
                  refine Ops.to rfl ?_
                  refine Cd.cond_t rfl ?_
                  refine Cd.seq ?_
                  refine Cd.region ?_
                  refine Ops.q (q_asg rfl) ?_
                  refine Ops.to rfl ?_
                  refine Cd.rt (fn := Try.f35) [.int .i64 3] (by with_reducible repeat (first | exact rq_here | apply rq_then | apply rq_block)) rfl ⟨rfl, trivial⟩ ?_
                  intro w' hs'
                  exact ⟨by simp only [joinV]; have h8 : synE ns.length ip x13 = 3 := by { unfold synE; rw [if_neg (by grind)] }; have := firstE_stop (f := synE ns.length ip) hx14 (by omega); unfold netCheck; grind, hs'.none⟩
              · refine Ops.q (q_cmp rfl rfl (c_nlt (by omega))) ?_
                refine Ops.to rfl ?_
                refine Cd.seq ?_
                refine Cd.cond_f rfl ?_
                refine Cd.exitTo rfl ?_
                refine Cd.seq ?_
                refine Cd.region ?_
                refine Ops.q (q_asg rfl) ?_
                refine Ops.to rfl ?_
                refine Cd.rt (fn := Try.f35) [.int .i64 0] (by with_reducible repeat (first | exact rq_here | apply rq_then | apply rq_block)) rfl ⟨rfl, trivial⟩ ?_
                intro w' hs'
                exact ⟨by simp only [joinV]; have := firstE_end (f := synE ns.length ip) (show ss.length ≤ k by omega); unfold netCheck; grind, hs'.none⟩
end Go.Proofs.Ytilcdghliigngaa
