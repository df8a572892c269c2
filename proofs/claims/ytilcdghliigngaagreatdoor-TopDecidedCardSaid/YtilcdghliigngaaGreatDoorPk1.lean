/- Part of a claim: the program logic, the contracts of the functions, their models. No condition. -/
import Derived.WalkKit
import Derived.OwnWalkIn
import Derived.TacticsInMore
import Derived.OrdersIn
import Derived.RangeFuncLeaves
import Derived.RangeFuncNested
import Derived.Maps.AppendAt
import Derived.Shelf.Abstract
import Derived.MapKept
import Derived.Laws.StructEq
import Derived.Laws.OwnMore
import Derived.RangeFuncRecord
import Derived.Lib.SliceRun
import Derived.Lib.AppendZeros
import Derived.Lib.AppendZerosOnto
import Derived.Lib.Overlaps
import Derived.Laws.Externs
import Derived.Maps.RangeRun
import Derived.Lib.AppendStr
import Derived.Laws.Pointers
import Derived.Laws.Small
import Derived.Laws.IdiomStrings
import Derived.Laws.Slices
import Derived.Test.YtilcdghliigngaaGreatDoorProg
namespace Go.Proofs.YtilcdghliigngaaGreatDoorGl
set_option linter.unusedVariables false
set_option linter.unusedSimpArgs false
open Go.RowKit
structure Atom where
  P : World → (Nat → Prop) → Prop
  loc : ∀ {w w' : World} {S : Nat → Prop}, P w S → (∀ k, S k → w'.heap[k]? = w.heap[k]?) → P w' S
  lt : ∀ {w : World} {S : Nat → Prop} {k : Nat}, P w S → S k → k < w.heap.size
def Sats (w : World) : List Atom → (Nat → Prop) → Prop
  | [], T => ∀ k, ¬ T k
  | a :: A, T => ∃ S U, a.P w S ∧ Sats w A U ∧ (∀ k, S k → ¬ U k) ∧ (∀ k, T k ↔ S k ∨ U k)
structure Sat (w0 w : World) (A : List Atom) : Prop where
  below : Below w0.heap.size w0 w
  sats : ∃ T, Sats w A T ∧ ∀ k, T k → w0.heap.size ≤ k
theorem Sats.loc {w w' : World} : ∀ {A : List Atom} {T : Nat → Prop}, Sats w A T → (∀ k, T k → w'.heap[k]? = w.heap[k]?) → Sats w' A T
  | [], _, h, _ => h
  | _ :: _, _, ⟨S, U, ha, hA, hd, ht⟩, hs => ⟨S, U, Atom.loc _ ha (fun k hk => hs k ((ht k).2 (.inl hk))), Sats.loc hA (fun k hk => hs k ((ht k).2 (.inr hk))), hd, ht⟩
theorem Sats.lt {w : World} : ∀ {A : List Atom} {T : Nat → Prop}, Sats w A T → ∀ k, T k → k < w.heap.size
  | [], _, h, k, hk => (h k hk).elim
  | a :: _, _, ⟨_, _, ha, hA, _, ht⟩, k, hk => ((ht k).1 hk).elim (fun h => a.lt ha h) (fun h => Sats.lt hA k h)
theorem Sats.iff {w : World} {A : List Atom} {T T' : Nat → Prop} (h : Sats w A T) (hT : ∀ k, T k ↔ T' k) : Sats w A T' := by
  cases A with
  | nil => exact fun k hk => h k ((hT k).2 hk)
  | cons a A => obtain ⟨S, U, ha, hA, hd, ht⟩ := h; exact ⟨S, U, ha, hA, hd, fun k => (hT k).symm.trans (ht k)⟩
theorem Sats.swap {w : World} {a b : Atom} {A : List Atom} {T : Nat → Prop} (h : Sats w (a :: b :: A) T) : Sats w (b :: a :: A) T := by
  obtain ⟨S, U, ha, ⟨S', U', hb, hA, hd', ht'⟩, hd, ht⟩ := h
  refine ⟨S', fun k => S k ∨ U' k, hb, ⟨S, U', ha, hA, fun k hk hu => hd k hk ((ht' k).2 (.inr hu)), fun _ => Iff.rfl⟩, ?_, ?_⟩
  · rintro k hk (h1 | h1)
    · exact hd k h1 ((ht' k).2 (.inl hk))
    · exact hd' k hk h1
  · intro k
    rw [ht k, ht' k]
    constructor
    · rintro (h | h | h)
      · exact .inr (.inl h)
      · exact .inl h
      · exact .inr (.inr h)
    · rintro (h | h | h)
      · exact .inr (.inl h)
      · exact .inl h
      · exact .inr (.inr h)
inductive Upd : List Atom → Atom → Atom → List Atom → Prop
  | here {a a' : Atom} {A : List Atom} : Upd (a :: A) a a' (a' :: A)
  | there {a a' b : Atom} {A A' : List Atom} : Upd A a a' A' → Upd (b :: A) a a' (b :: A')
inductive Pull : List Atom → Atom → List Atom → Prop
  | here {a : Atom} {A : List Atom} : Pull (a :: A) a A
  | there {a b : Atom} {A A' : List Atom} : Pull A a A' → Pull (b :: A) a (b :: A')
theorem Pull.p2 {a0 a1 b : Atom} {A : List Atom} : Pull (a0 :: a1 :: b :: A) b (a0 :: a1 :: A) := (.there (.there .here))
theorem Upd.p2 {a0 a1 b c : Atom} {A : List Atom} : Upd (a0 :: a1 :: b :: A) b c (a0 :: a1 :: c :: A) := (.there (.there .here))
theorem Pull.p3 {a0 a1 a2 b : Atom} {A : List Atom} : Pull (a0 :: a1 :: a2 :: b :: A) b (a0 :: a1 :: a2 :: A) := (.there (.there (.there .here)))
theorem Upd.p3 {a0 a1 a2 b c : Atom} {A : List Atom} : Upd (a0 :: a1 :: a2 :: b :: A) b c (a0 :: a1 :: a2 :: c :: A) := (.there (.there (.there .here)))
theorem Pull.p4 {a0 a1 a2 a3 b : Atom} {A : List Atom} : Pull (a0 :: a1 :: a2 :: a3 :: b :: A) b (a0 :: a1 :: a2 :: a3 :: A) := (.there (.there (.there (.there .here))))
theorem Upd.p4 {a0 a1 a2 a3 b c : Atom} {A : List Atom} : Upd (a0 :: a1 :: a2 :: a3 :: b :: A) b c (a0 :: a1 :: a2 :: a3 :: c :: A) := (.there (.there (.there (.there .here))))
theorem Pull.p5 {a0 a1 a2 a3 a4 b : Atom} {A : List Atom} : Pull (a0 :: a1 :: a2 :: a3 :: a4 :: b :: A) b (a0 :: a1 :: a2 :: a3 :: a4 :: A) := (.there (.there (.there (.there (.there .here)))))
theorem Upd.p5 {a0 a1 a2 a3 a4 b c : Atom} {A : List Atom} : Upd (a0 :: a1 :: a2 :: a3 :: a4 :: b :: A) b c (a0 :: a1 :: a2 :: a3 :: a4 :: c :: A) := (.there (.there (.there (.there (.there .here)))))
theorem Pull.p6 {a0 a1 a2 a3 a4 a5 b : Atom} {A : List Atom} : Pull (a0 :: a1 :: a2 :: a3 :: a4 :: a5 :: b :: A) b (a0 :: a1 :: a2 :: a3 :: a4 :: a5 :: A) := (.there (.there (.there (.there (.there (.there .here))))))
theorem Upd.p6 {a0 a1 a2 a3 a4 a5 b c : Atom} {A : List Atom} : Upd (a0 :: a1 :: a2 :: a3 :: a4 :: a5 :: b :: A) b c (a0 :: a1 :: a2 :: a3 :: a4 :: a5 :: c :: A) := (.there (.there (.there (.there (.there (.there .here))))))
theorem Pull.p7 {a0 a1 a2 a3 a4 a5 a6 b : Atom} {A : List Atom} : Pull (a0 :: a1 :: a2 :: a3 :: a4 :: a5 :: a6 :: b :: A) b (a0 :: a1 :: a2 :: a3 :: a4 :: a5 :: a6 :: A) := (.there (.there (.there (.there (.there (.there (.there .here)))))))
theorem Upd.p7 {a0 a1 a2 a3 a4 a5 a6 b c : Atom} {A : List Atom} : Upd (a0 :: a1 :: a2 :: a3 :: a4 :: a5 :: a6 :: b :: A) b c (a0 :: a1 :: a2 :: a3 :: a4 :: a5 :: a6 :: c :: A) := (.there (.there (.there (.there (.there (.there (.there .here)))))))
theorem Pull.p8 {a0 a1 a2 a3 a4 a5 a6 a7 b : Atom} {A : List Atom} : Pull (a0 :: a1 :: a2 :: a3 :: a4 :: a5 :: a6 :: a7 :: b :: A) b (a0 :: a1 :: a2 :: a3 :: a4 :: a5 :: a6 :: a7 :: A) := (.there (.there (.there (.there (.there (.there (.there (.there .here))))))))
theorem Upd.p8 {a0 a1 a2 a3 a4 a5 a6 a7 b c : Atom} {A : List Atom} : Upd (a0 :: a1 :: a2 :: a3 :: a4 :: a5 :: a6 :: a7 :: b :: A) b c (a0 :: a1 :: a2 :: a3 :: a4 :: a5 :: a6 :: a7 :: c :: A) := (.there (.there (.there (.there (.there (.there (.there (.there .here))))))))
theorem Pull.p9 {a0 a1 a2 a3 a4 a5 a6 a7 a8 b : Atom} {A : List Atom} : Pull (a0 :: a1 :: a2 :: a3 :: a4 :: a5 :: a6 :: a7 :: a8 :: b :: A) b (a0 :: a1 :: a2 :: a3 :: a4 :: a5 :: a6 :: a7 :: a8 :: A) := (.there (.there (.there (.there (.there (.there (.there (.there (.there .here)))))))))
theorem Upd.p9 {a0 a1 a2 a3 a4 a5 a6 a7 a8 b c : Atom} {A : List Atom} : Upd (a0 :: a1 :: a2 :: a3 :: a4 :: a5 :: a6 :: a7 :: a8 :: b :: A) b c (a0 :: a1 :: a2 :: a3 :: a4 :: a5 :: a6 :: a7 :: a8 :: c :: A) := (.there (.there (.there (.there (.there (.there (.there (.there (.there .here)))))))))
theorem Pull.p10 {a0 a1 a2 a3 a4 a5 a6 a7 a8 a9 b : Atom} {A : List Atom} : Pull (a0 :: a1 :: a2 :: a3 :: a4 :: a5 :: a6 :: a7 :: a8 :: a9 :: b :: A) b (a0 :: a1 :: a2 :: a3 :: a4 :: a5 :: a6 :: a7 :: a8 :: a9 :: A) := (.there (.there (.there (.there (.there (.there (.there (.there (.there (.there .here))))))))))
theorem Upd.p10 {a0 a1 a2 a3 a4 a5 a6 a7 a8 a9 b c : Atom} {A : List Atom} : Upd (a0 :: a1 :: a2 :: a3 :: a4 :: a5 :: a6 :: a7 :: a8 :: a9 :: b :: A) b c (a0 :: a1 :: a2 :: a3 :: a4 :: a5 :: a6 :: a7 :: a8 :: a9 :: c :: A) := (.there (.there (.there (.there (.there (.there (.there (.there (.there (.there .here))))))))))
theorem Pull.p11 {a0 a1 a2 a3 a4 a5 a6 a7 a8 a9 a10 b : Atom} {A : List Atom} : Pull (a0 :: a1 :: a2 :: a3 :: a4 :: a5 :: a6 :: a7 :: a8 :: a9 :: a10 :: b :: A) b (a0 :: a1 :: a2 :: a3 :: a4 :: a5 :: a6 :: a7 :: a8 :: a9 :: a10 :: A) := (.there (.there (.there (.there (.there (.there (.there (.there (.there (.there (.there .here)))))))))))
theorem Upd.p11 {a0 a1 a2 a3 a4 a5 a6 a7 a8 a9 a10 b c : Atom} {A : List Atom} : Upd (a0 :: a1 :: a2 :: a3 :: a4 :: a5 :: a6 :: a7 :: a8 :: a9 :: a10 :: b :: A) b c (a0 :: a1 :: a2 :: a3 :: a4 :: a5 :: a6 :: a7 :: a8 :: a9 :: a10 :: c :: A) := (.there (.there (.there (.there (.there (.there (.there (.there (.there (.there (.there .here)))))))))))
theorem Pull.p12 {a0 a1 a2 a3 a4 a5 a6 a7 a8 a9 a10 a11 b : Atom} {A : List Atom} : Pull (a0 :: a1 :: a2 :: a3 :: a4 :: a5 :: a6 :: a7 :: a8 :: a9 :: a10 :: a11 :: b :: A) b (a0 :: a1 :: a2 :: a3 :: a4 :: a5 :: a6 :: a7 :: a8 :: a9 :: a10 :: a11 :: A) := (.there (.there (.there (.there (.there (.there (.there (.there (.there (.there (.there (.there .here))))))))))))
theorem Upd.p12 {a0 a1 a2 a3 a4 a5 a6 a7 a8 a9 a10 a11 b c : Atom} {A : List Atom} : Upd (a0 :: a1 :: a2 :: a3 :: a4 :: a5 :: a6 :: a7 :: a8 :: a9 :: a10 :: a11 :: b :: A) b c (a0 :: a1 :: a2 :: a3 :: a4 :: a5 :: a6 :: a7 :: a8 :: a9 :: a10 :: a11 :: c :: A) := (.there (.there (.there (.there (.there (.there (.there (.there (.there (.there (.there (.there .here))))))))))))
theorem Pull.p13 {a0 a1 a2 a3 a4 a5 a6 a7 a8 a9 a10 a11 a12 b : Atom} {A : List Atom} : Pull (a0 :: a1 :: a2 :: a3 :: a4 :: a5 :: a6 :: a7 :: a8 :: a9 :: a10 :: a11 :: a12 :: b :: A) b (a0 :: a1 :: a2 :: a3 :: a4 :: a5 :: a6 :: a7 :: a8 :: a9 :: a10 :: a11 :: a12 :: A) := (.there (.there (.there (.there (.there (.there (.there (.there (.there (.there (.there (.there (.there .here)))))))))))))
theorem Upd.p13 {a0 a1 a2 a3 a4 a5 a6 a7 a8 a9 a10 a11 a12 b c : Atom} {A : List Atom} : Upd (a0 :: a1 :: a2 :: a3 :: a4 :: a5 :: a6 :: a7 :: a8 :: a9 :: a10 :: a11 :: a12 :: b :: A) b c (a0 :: a1 :: a2 :: a3 :: a4 :: a5 :: a6 :: a7 :: a8 :: a9 :: a10 :: a11 :: a12 :: c :: A) := (.there (.there (.there (.there (.there (.there (.there (.there (.there (.there (.there (.there (.there .here)))))))))))))
theorem Pull.p14 {a0 a1 a2 a3 a4 a5 a6 a7 a8 a9 a10 a11 a12 a13 b : Atom} {A : List Atom} : Pull (a0 :: a1 :: a2 :: a3 :: a4 :: a5 :: a6 :: a7 :: a8 :: a9 :: a10 :: a11 :: a12 :: a13 :: b :: A) b (a0 :: a1 :: a2 :: a3 :: a4 :: a5 :: a6 :: a7 :: a8 :: a9 :: a10 :: a11 :: a12 :: a13 :: A) := (.there (.there (.there (.there (.there (.there (.there (.there (.there (.there (.there (.there (.there (.there .here))))))))))))))
theorem Upd.p14 {a0 a1 a2 a3 a4 a5 a6 a7 a8 a9 a10 a11 a12 a13 b c : Atom} {A : List Atom} : Upd (a0 :: a1 :: a2 :: a3 :: a4 :: a5 :: a6 :: a7 :: a8 :: a9 :: a10 :: a11 :: a12 :: a13 :: b :: A) b c (a0 :: a1 :: a2 :: a3 :: a4 :: a5 :: a6 :: a7 :: a8 :: a9 :: a10 :: a11 :: a12 :: a13 :: c :: A) := (.there (.there (.there (.there (.there (.there (.there (.there (.there (.there (.there (.there (.there (.there .here))))))))))))))
theorem Pull.p15 {a0 a1 a2 a3 a4 a5 a6 a7 a8 a9 a10 a11 a12 a13 a14 b : Atom} {A : List Atom} : Pull (a0 :: a1 :: a2 :: a3 :: a4 :: a5 :: a6 :: a7 :: a8 :: a9 :: a10 :: a11 :: a12 :: a13 :: a14 :: b :: A) b (a0 :: a1 :: a2 :: a3 :: a4 :: a5 :: a6 :: a7 :: a8 :: a9 :: a10 :: a11 :: a12 :: a13 :: a14 :: A) := (.there (.there (.there (.there (.there (.there (.there (.there (.there (.there (.there (.there (.there (.there (.there .here)))))))))))))))
theorem Upd.p15 {a0 a1 a2 a3 a4 a5 a6 a7 a8 a9 a10 a11 a12 a13 a14 b c : Atom} {A : List Atom} : Upd (a0 :: a1 :: a2 :: a3 :: a4 :: a5 :: a6 :: a7 :: a8 :: a9 :: a10 :: a11 :: a12 :: a13 :: a14 :: b :: A) b c (a0 :: a1 :: a2 :: a3 :: a4 :: a5 :: a6 :: a7 :: a8 :: a9 :: a10 :: a11 :: a12 :: a13 :: a14 :: c :: A) := (.there (.there (.there (.there (.there (.there (.there (.there (.there (.there (.there (.there (.there (.there (.there .here)))))))))))))))
theorem Pull.p16 {a0 a1 a2 a3 a4 a5 a6 a7 a8 a9 a10 a11 a12 a13 a14 a15 b : Atom} {A : List Atom} : Pull (a0 :: a1 :: a2 :: a3 :: a4 :: a5 :: a6 :: a7 :: a8 :: a9 :: a10 :: a11 :: a12 :: a13 :: a14 :: a15 :: b :: A) b (a0 :: a1 :: a2 :: a3 :: a4 :: a5 :: a6 :: a7 :: a8 :: a9 :: a10 :: a11 :: a12 :: a13 :: a14 :: a15 :: A) := (.there (.there (.there (.there (.there (.there (.there (.there (.there (.there (.there (.there (.there (.there (.there (.there .here))))))))))))))))
theorem Upd.p16 {a0 a1 a2 a3 a4 a5 a6 a7 a8 a9 a10 a11 a12 a13 a14 a15 b c : Atom} {A : List Atom} : Upd (a0 :: a1 :: a2 :: a3 :: a4 :: a5 :: a6 :: a7 :: a8 :: a9 :: a10 :: a11 :: a12 :: a13 :: a14 :: a15 :: b :: A) b c (a0 :: a1 :: a2 :: a3 :: a4 :: a5 :: a6 :: a7 :: a8 :: a9 :: a10 :: a11 :: a12 :: a13 :: a14 :: a15 :: c :: A) := (.there (.there (.there (.there (.there (.there (.there (.there (.there (.there (.there (.there (.there (.there (.there (.there .here))))))))))))))))
theorem Sats.pull {w : World} {a : Atom} {A A' : List Atom} (hp : Pull A a A') : ∀ {T : Nat → Prop}, Sats w A T → Sats w (a :: A') T := by
  induction hp with
  | here => exact fun h => h
  | there _ ih =>
    intro T h
    obtain ⟨S, U, hb, hA, hd, ht⟩ := h
    exact Sats.swap ⟨S, U, hb, ih hA, hd, ht⟩
theorem Sats.push {w : World} {a : Atom} {A A' : List Atom} (hp : Pull A a A') : ∀ {T : Nat → Prop}, Sats w (a :: A') T → Sats w A T := by
  induction hp with
  | here => exact fun h => h
  | there _ ih =>
    intro T h
    obtain ⟨S, U, hb, hA, hd, ht⟩ := Sats.swap h
    exact ⟨S, U, hb, ih hA, hd, ht⟩
theorem Upd.pull {A A' : List Atom} {a a' : Atom} (h : Upd A a a' A') : ∃ R, Pull A a R ∧ Pull A' a' R := by
  induction h with
  | here => exact ⟨_, .here, .here⟩
  | there _ ih => obtain ⟨R, h1, h2⟩ := ih; exact ⟨_, .there h1, .there h2⟩
theorem Sat.pull {w0 w : World} {a : Atom} {A A' : List Atom} (h : Sat w0 w A) (hp : Pull A a A') : Sat w0 w (a :: A') :=
  ⟨h.below, let ⟨T, hs, ht⟩ := h.sats; ⟨T, hs.pull hp, ht⟩⟩
theorem Sat.push {w0 w : World} {a : Atom} {A A' : List Atom} (h : Sat w0 w (a :: A')) (hp : Pull A a A') : Sat w0 w A :=
  ⟨h.below, let ⟨T, hs, ht⟩ := h.sats; ⟨T, hs.push hp, ht⟩⟩
theorem Sat.nil (w : World) : Sat w w [] := ⟨Below.refl _ _, fun _ => False, fun _ h => h, fun _ h => h.elim⟩
theorem Sat.later {w0 w w' : World} {A : List Atom} (h : Sat w0 w A) (hb : Below w.heap.size w w') : Sat w0 w' A := by
  obtain ⟨hB, T, hs, ht⟩ := h
  exact ⟨hB.trans (hb.mono hB.size), T, hs.loc (fun k hk => hb.block k (hs.lt k hk)), ht⟩
theorem Sat.drew {w0 w : World} {A : List Atom} (h : Sat w0 w A) : Sat w0 w.drew A := h.later (Below.drew (Below.refl _ _))
theorem Sat.step {w0 w : World} {a : Atom} {A : List Atom} (h : Sat w0 w (a :: A)) :
    ∃ S, a.P w S ∧ (∀ k, S k → w0.heap.size ≤ k) ∧ ∀ {w' : World} {a' : Atom} {S' : Nat → Prop}, a'.P w' S' → (∀ k, S' k → S k ∨ w.heap.size ≤ k) →
      w'.os = w.os → w'.tape = w.tape → w'.output = w.output → w.heap.size ≤ w'.heap.size → (∀ k, k < w.heap.size → ¬ S k → w'.heap[k]? = w.heap[k]?) → Sat w0 w' (a' :: A) := by
  obtain ⟨hB, T, ⟨S, U, ha, hA, hd, ht⟩, hT⟩ := h
  refine ⟨S, ha, fun k hk => hT k ((ht k).2 (.inl hk)), ?_⟩
  intro w' a' S' ha' hS' h1 h2 h3 hz hsame
  have hU : ∀ k, U k → w'.heap[k]? = w.heap[k]? := fun k hk => hsame k (hA.lt k hk) (fun hs => hd k hs hk)
  refine ⟨hB.trans ⟨h1, h2, h3, hz, fun k hk => hsame k (Nat.lt_of_lt_of_le hk hB.size) (fun hs => ?_)⟩, fun k => S' k ∨ U k, ⟨S', U, ha', hA.loc hU, ?_, fun _ => Iff.rfl⟩, ?_⟩
  · have := hT k ((ht k).2 (.inl hs)); omega
  · intro k hk hu
    rcases hS' k hk with h | h
    · exact hd k h hu
    · have := hA.lt k hu; omega
  · rintro k (hk | hk)
    · rcases hS' k hk with h | h
      · exact hT k ((ht k).2 (.inl h))
      · have := hB.size; omega
    · exact hT k ((ht k).2 (.inr hk))
theorem Sat.add {w0 w w' : World} {a : Atom} {S : Nat → Prop} {A : List Atom} (h : Sat w0 w A) (hb : Below w.heap.size w w') (ha : a.P w' S) (hS : ∀ k, S k → w.heap.size ≤ k) : Sat w0 w' (a :: A) := by
  have h' := h.later hb
  obtain ⟨hB, T, hs, ht⟩ := h
  refine ⟨h'.below, fun k => S k ∨ T k, ⟨S, T, ha, hs.loc (fun k hk => hb.block k (hs.lt k hk)), fun k hk hT => ?_, fun _ => Iff.rfl⟩, ?_⟩
  · have := hS k hk; have := hs.lt k hT; omega
  · rintro k (hk | hk)
    · have := hS k hk; have := hB.size; omega
    · exact ht k hk
theorem Sat.drop {w0 w : World} {a : Atom} {A : List Atom} (h : Sat w0 w (a :: A)) : Sat w0 w A := by
  obtain ⟨hB, T, ⟨S, U, ha, hA, hd, ht⟩, hT⟩ := h
  exact ⟨hB, U, hA, fun k hk => hT k ((ht k).2 (.inr hk))⟩
end Go.Proofs.YtilcdghliigngaaGreatDoorGl
namespace Go.Proofs.YtilcdghliigngaaGreatDoorGl
set_option linter.unusedVariables false
set_option linter.unusedSimpArgs false
open Go.RowKit
abbrev Env := List (Nat × Value)
def lk : Env → Nat → Option Value
  | [], _ => none
  | (t, v) :: r, s => match Nat.beq t s with
    | true => some v
    | false => lk r s
structure Kn (n : Nat) (D : List Deferred) (L : Env) (a : Act) : Prop where
  size : a.tmps.size = n
  defers : a.defers = D
  look : ∀ t v, lk L t = some v → a.tmps[t]? = some v
def ev (L : Env) : Operand → Option Value
  | .tmp t => lk L t
  | .const v => some v
  | .global g => some (.pointer (some ⟨g, 0, none⟩))
  | .func f => some (.func (.func f) #[] #[])
theorem Kn.ev {n : Nat} {D : List Deferred} {L : Env} {a : Act} (h : Kn n D L a) {x : Operand} {v : Value} (hx : ev L x = some v) : a.eval x = v := by
  cases x with
  | tmp t =>
    have h1 := h.look t v hx
    simp [Act.eval, Array.getD_eq_getD_getElem?, h1]
  | const u => exact Option.some.inj hx
  | global g => exact Option.some.inj hx
  | func f => exact Option.some.inj hx
theorem lk_cons (t : Nat) (v : Value) (L : Env) (s : Nat) : lk ((t, v) :: L) s = if t = s then some v else lk L s := by
  simp only [lk]
  cases hb : Nat.beq t s with
  | true => have := Nat.eq_of_beq_eq_true hb; simp [this]
  | false => have := Nat.ne_of_beq_eq_false hb; simp [this]
theorem Kn.put {n : Nat} {D : List Deferred} {L : Env} {a : Act} (h : Kn n D L a) {t : Nat} (ht : t < n) (v : Value) : Kn n D ((t, v) :: L) (a.put (some t) v) := by
  refine ⟨by simp [Act.put, h.size], by simp [Act.put, h.defers], fun s u hs => ?_⟩
  rw [lk_cons] at hs
  by_cases e : t = s
  · subst e
    rw [if_pos rfl] at hs
    obtain rfl := Option.some.inj hs
    simp [Act.put, Array.getElem?_setIfInBounds, h.size, ht]
  · rw [if_neg e] at hs
    simp only [Act.put]
    rw [Array.getElem?_setIfInBounds_ne e]
    exact h.look s u hs
def Sub : Env → Env → Prop
  | [], _ => True
  | (t, v) :: r, L => lk L t = some v ∧ Sub r L
theorem Sub.look : ∀ {L' L : Env}, Sub L' L → ∀ t v, lk L' t = some v → lk L t = some v
  | [], _, _, t, v, h => by simp [lk] at h
  | (s, u) :: r, L, h, t, v, hl => by
    rw [lk_cons] at hl
    by_cases e : s = t
    · rw [if_pos e] at hl; obtain rfl := Option.some.inj hl; exact e ▸ h.1
    · rw [if_neg e] at hl; exact Sub.look h.2 t v hl
theorem Kn.sub {n : Nat} {D : List Deferred} {L L' : Env} {a : Act} (h : Kn n D L a) (hs : Sub L' L) : Kn n D L' a := ⟨h.size, h.defers, fun t v hl => h.look t v (hs.look t v hl)⟩
def gd (ops : Array Oper) (L : Env) (o : Oper) : Option Bool :=
  match o.guard with
  | none => some true
  | some (j, want) =>
    match (ops[j]?).bind (·.dst) with
    | some d =>
      match lk L d with
      | some (.bool b) => some (b == want)
      | some _ => some false
      | none => none
    | none => some false
theorem Kn.gd {n : Nat} {D : List Deferred} {L : Env} {a : Act} (h : Kn n D L a) {ops : Array Oper} {o : Oper} {b : Bool} (hg : gd ops L o = some b) : Region.wanted o (yielded ops a.tmps) = b := by
  unfold Region.wanted
  unfold YtilcdghliigngaaGreatDoorGl.gd at hg
  cases ho : o.guard with
  | none => rw [ho] at hg; exact Option.some.inj hg
  | some p =>
    obtain ⟨j, want⟩ := p
    rw [ho] at hg
    simp only [] at hg ⊢
    cases hd : (ops[j]?).bind (·.dst) with
    | none =>
      rw [hd] at hg
      have : yielded ops a.tmps j = none := by simp [yielded, hd]
      rw [this]
      obtain rfl := Option.some.inj hg
      simp
    | some d =>
      rw [hd] at hg
      simp only [] at hg
      cases hl : lk L d with
      | none => rw [hl] at hg; cases hg
      | some v =>
        rw [hl] at hg
        have h1 := h.look d v hl
        cases v with
        | bool c =>
          have : yielded ops a.tmps j = some c := by simp [yielded, hd, h1]
          rw [this]
          obtain rfl := Option.some.inj hg
          simp
        | _ =>
          have : yielded ops a.tmps j = none := by simp [yielded, hd, h1]
          rw [this]
          obtain rfl := Option.some.inj hg
          simp
abbrev Fw (r : Option Nat) : Fence := { fn := fun _ => True, depth := none, alive := false, round := r }
theorem callsIn_Fw {r : Option Nat} {n : Nat} {P : Program} {f : FuncId} {args : Array Value} {w : World} {R : Ending → World → Prop} (h : Calls P f args w R) : CallsIn (Fw r) n P f args w R := by
  have h' : CallsIn Fence.wide n P f args w R := callsIn_wide.2 h
  cases r with
  | none => exact h'
  | some l => exact CallsIn.inRound l h'
def Ops (P : Program) (r : Option Nat) (ops : Array Oper) (Q : Exit → Act → World → Prop) (w0 : World) (n : Nat) (D : List Deferred) (rest : List Oper) (L : Env) (A : List Atom) : Prop :=
  ∀ a w, Kn n D L a → Sat w0 w A → wpListIn (Fw r) 0 P ops Q rest a w
def Cd (P : Program) (r : Option Nat) (c : Code) (Q : Exit → Act → World → Prop) (w0 : World) (n : Nat) (D : List Deferred) (L : Env) (A : List Atom) : Prop :=
  ∀ a w, Kn n D L a → Sat w0 w A → c.wpIn (Fw r) 0 P Q a w
def noDefer : Op → Bool
  | .defer _ => false
  | _ => true
theorem semAt_noDefer {r : Option Nat} (ρ : Operand → Value) (o : Oper) (h : noDefer o.op = true) : o.semAt r ρ = execOp ρ o := by
  cases r with
  | none => exact Oper.semAt_none ..
  | some l => exact Oper.semAt_some l ρ o (fun c hc => by rw [hc] at h; cases h)
section
variable {P : Program} {r : Option Nat} {ops : Array Oper} {Q : Exit → Act → World → Prop} {w0 : World} {n : Nat} {D : List Deferred} {rest : List Oper} {L : Env} {A : List Atom}
theorem Cd.sat {c : Code} {A' : List Atom} (h : Cd P r c Q w0 n D L A') (hs : ∀ w, Sat w0 w A → Sat w0 w A') : Cd P r c Q w0 n D L A := fun a w hk hsat => h a w hk (hs w hsat)
theorem Ops.sat {A' : List Atom} (h : Ops P r ops Q w0 n D rest L A') (hs : ∀ w, Sat w0 w A → Sat w0 w A') : Ops P r ops Q w0 n D rest L A := fun a w hk hsat => h a w hk (hs w hsat)
theorem Ops.pull {a : Atom} {A' : List Atom} (hp : Pull A a A') (h : Ops P r ops Q w0 n D rest L (a :: A')) : Ops P r ops Q w0 n D rest L A := h.sat (fun _ hs => hs.pull hp)
theorem Cd.pull {c : Code} {a : Atom} {A' : List Atom} (hp : Pull A a A') (h : Cd P r c Q w0 n D L (a :: A')) : Cd P r c Q w0 n D L A := h.sat (fun _ hs => hs.pull hp)
theorem Ops.drop {a : Atom} {A' : List Atom} (hp : Pull A a A') (h : Ops P r ops Q w0 n D rest L A') : Ops P r ops Q w0 n D rest L A := h.sat (fun _ hs => (hs.pull hp).drop)
theorem Cd.drop {c : Code} {a : Atom} {A' : List Atom} (hp : Pull A a A') (h : Cd P r c Q w0 n D L A') : Cd P r c Q w0 n D L A := h.sat (fun _ hs => (hs.pull hp).drop)
theorem Ops.skip {o : Oper} {t : Nat} (hg : gd ops L o = some false) (hd : o.dst = some t) (ht : Nat.blt t n = true) (h : Ops P r ops Q w0 n D rest ((t, undef) :: L) A) :
    Ops P r ops Q w0 n D (o :: rest) L A := by
  intro a w hk hs
  unfold wpListIn
  rw [hk.gd hg]
  simp only [Bool.false_eq_true, if_false]
  rw [hd]
  exact ⟨fun _ _ => trivial, h _ _ (hk.put (by simpa [Nat.blt_eq] using ht) _) hs⟩
theorem Ops.val {α : Type} {o : Oper} {t : Nat} {v : α → Value} {A' : α → List Atom} (hg : gd ops L o = some true) (hd : o.dst = some t) (ht : Nat.blt t n = true) (hnd : noDefer o.op = true)
    (hrun : ∀ a w, Kn n D L a → Sat w0 w A → ∃ x w', (execOp a.eval o).run P w = .ok (.value (v x)) w' ∧ Sat w0 w' (A' x))
    (h : ∀ x, Ops P r ops Q w0 n D rest ((t, v x) :: L) (A' x)) : Ops P r ops Q w0 n D (o :: rest) L A := by
  intro a w hk hs
  unfold wpListIn
  rw [hk.gd hg]
  simp only [if_true]
  obtain ⟨x, w', hr, hs'⟩ := hrun a w hk hs
  refine ⟨fun _ _ => trivial, ?_⟩
  rw [semAt_noDefer _ _ hnd, hr, Oper.uponIn_value, hd]
  exact h x _ _ (hk.put (by simpa [Nat.blt_eq] using ht) _) hs'
theorem Ops.same {o : Oper} {t : Nat} {v : Value} (hg : gd ops L o = some true) (hd : o.dst = some t) (ht : Nat.blt t n = true) (hnd : noDefer o.op = true)
    (hrun : ∀ a w, Kn n D L a → Sat w0 w A → (execOp a.eval o).run P w = .ok (.value v) w) (h : Ops P r ops Q w0 n D rest ((t, v) :: L) A) : Ops P r ops Q w0 n D (o :: rest) L A :=
  Ops.val (α := Unit) hg hd ht hnd (fun a w hk hs => ⟨(), w, hrun a w hk hs, hs⟩) (fun _ => h)
def Qv (P : Program) (w0 : World) (n : Nat) (D : List Deferred) (L : Env) (A : List Atom) (op : Op) (v : Value) : Prop :=
  ∀ (a : Act) (w : World), Kn n D L a → Sat w0 w A → ∀ (dst : Option Tmp) (ty : TypeId) (pos : String) (af : Array Edge) (g : Option (Nat × Bool)), (execOp a.eval ⟨dst, op, ty, pos, af, g⟩).run P w = .ok (.value v) w ∧ noDefer op = true
theorem Ops.q {op : Op} {v : Value} {t : Nat} {ty : TypeId} {pos : String} {af : Array Edge} {g : Option (Nat × Bool)} (hq : Qv P w0 n D L A op v) (h : Ops P r ops Q w0 n D rest ((t, v) :: L) A)
    (hg : gd ops L ⟨some t, op, ty, pos, af, g⟩ = some true := by rfl) (ht : Nat.blt t n = true := by rfl) : Ops P r ops Q w0 n D (⟨some t, op, ty, pos, af, g⟩ :: rest) L A := by
  intro a w hk hs
  exact Ops.same hg rfl ht (hq a w hk hs none ty pos af g).2 (fun a w hk hs => (hq a w hk hs _ ty pos af g).1) h a w hk hs
theorem Ops.act {α : Type} {o : Oper} {A' : α → List Atom} (hg : gd ops L o = some true) (hd : o.dst = none) (hnd : noDefer o.op = true)
    (hrun : ∀ a w, Kn n D L a → Sat w0 w A → ∃ x w', (execOp a.eval o).run P w = .ok .skip w' ∧ Sat w0 w' (A' x))
    (h : ∀ x, Ops P r ops Q w0 n D rest L (A' x)) : Ops P r ops Q w0 n D (o :: rest) L A := by
  intro a w hk hs
  unfold wpListIn
  rw [hk.gd hg]
  simp only [if_true]
  obtain ⟨x, w', hr, hs'⟩ := hrun a w hk hs
  refine ⟨fun _ _ => trivial, ?_⟩
  rw [semAt_noDefer _ _ hnd, hr, Oper.uponIn_skip, hd]
  exact h x _ _ hk hs'
theorem Ops.call {α : Type} {o : Oper} {t : Nat} {f : FuncId} {args : Array Value} {v : α → Value} {A' : α → List Atom} (hg : gd ops L o = some true) (hd : o.dst = some t) (ht : Nat.blt t n = true) (hnd : noDefer o.op = true)
    (hrun : ∀ a w, Kn n D L a → Sat w0 w A → (execOp a.eval o).run P w = .ok (.enter f args) w)
    (hc : ∀ w, Sat w0 w A → Calls P f args w fun e w' => ∃ x, e = .returned (v x) ∧ Sat w0 w' (A' x))
    (h : ∀ x, Ops P r ops Q w0 n D rest ((t, v x) :: L) (A' x)) : Ops P r ops Q w0 n D (o :: rest) L A := by
  intro a w hk hs
  unfold wpListIn
  rw [hk.gd hg]
  simp only [if_true]
  refine ⟨fun _ _ => trivial, ?_⟩
  rw [semAt_noDefer _ _ hnd, hrun a w hk hs, Oper.uponIn_enter]
  refine ⟨fun hn => (by simp at hn), callsIn_Fw ((hc w hs).mono fun e w' he => ?_)⟩
  obtain ⟨x, rfl, hs'⟩ := he
  rw [hd]
  exact h x _ _ (hk.put (by simpa [Nat.blt_eq] using ht) _) hs'
theorem Ops.nil (h : ∀ a w, Kn n D L a → Sat w0 w A → Q .normal a w) : Ops P r ops Q w0 n D [] L A := fun a w hk hs => h a w hk hs
theorem Ops.next {y : Code} {Q' : Exit → Act → World → Prop} (h : Cd P r y Q' w0 n D L A) : Ops P r ops (Exit.then (y.wpIn (Fw r) 0 P Q') Q') w0 n D [] L A := fun a w hk hs => h a w hk hs
theorem Cd.region {id : Nat} {l : List Oper} (h : Ops P r l.toArray Q w0 n D l L A) : Cd P r (.region id l.toArray false) Q w0 n D L A := fun a w hk hs => wpIn_region_lit (h a w hk hs)
theorem Cd.seq {x y : Code} (h : Cd P r x (Exit.then (y.wpIn (Fw r) 0 P Q) Q) w0 n D L A) : Cd P r (.seq x y) Q w0 n D L A := fun a w hk hs => wpIn_seq (h a w hk hs)
theorem Cd.skip (h : ∀ a w, Kn n D L a → Sat w0 w A → Q .normal a w) : Cd P r .skip Q w0 n D L A := fun a w hk hs => wpIn_skip (h a w hk hs)
theorem Cd.ret (h : ∀ a w, Kn n D L a → Sat w0 w A → Q .ret a w) : Cd P r .ret Q w0 n D L A := fun a w hk hs => wpIn_ret (h a w hk hs)
theorem Cd.exit {id : Nat} (h : ∀ a w, Kn n D L a → Sat w0 w A → Q (.exit id) a w) : Cd P r (.exit id) Q w0 n D L A := fun a w hk hs => wpIn_exit (h a w hk hs)
theorem Cd.block {id : Nat} {c : Code} (h : Cd P r c (Exit.inBlock id Q) w0 n D L A) : Cd P r (.block id c) Q w0 n D L A := fun a w hk hs => wpIn_block (h a w hk hs)
theorem Cd.cond {c : Operand} {x y : Code} {b : Bool} (hc : ev L c = some (.bool b)) (ht : b = true → Cd P r x Q w0 n D L A) (hf : b = false → Cd P r y Q w0 n D L A) : Cd P r (.cond c x y) Q w0 n D L A :=
  fun a w hk hs => wpIn_cond_split (hk.ev hc) (fun h => ht h a w hk hs) (fun h => hf h a w hk hs)
theorem Cd.cond_t {c : Operand} {x y : Code} (hc : ev L c = some (.bool true)) (h : Cd P r x Q w0 n D L A) : Cd P r (.cond c x y) Q w0 n D L A := fun a w hk hs => wpIn_cond_true (hk.ev hc) (h a w hk hs)
theorem Cd.cond_f {c : Operand} {x y : Code} (hc : ev L c = some (.bool false)) (h : Cd P r y Q w0 n D L A) : Cd P r (.cond c x y) Q w0 n D L A := fun a w hk hs => wpIn_cond_false (hk.ev hc) (h a w hk hs)
theorem Cd.to {y : Code} {Q' : Exit → Act → World → Prop} {e : Exit} (hq : Q e = y.wpIn (Fw r) 0 P Q') (h : Cd P r y Q' w0 n D L A) : ∀ a w, Kn n D L a → Sat w0 w A → Q e a w := fun a w hk hs => by rw [hq]; exact h a w hk hs
theorem exists_least {p : Nat → Prop} (h : ∃ k, p k) : ∃ k, p k ∧ ∀ j, p j → k ≤ j := by
  obtain ⟨m, hm⟩ := h
  induction m using Nat.strongRecOn with
  | _ m ih =>
    by_cases hex : ∃ j, j < m ∧ p j
    · obtain ⟨j, hj, hpj⟩ := hex; exact ih j hj hpj
    · exact ⟨m, hm, fun j hj => Nat.le_of_not_lt fun hlt => hex ⟨j, hlt, hj⟩⟩
open Classical in
noncomputable def least (p : Nat → Prop) : Nat := if h : ∃ k, p k then Classical.choose (exists_least h) else 0
theorem least_spec {p : Nat → Prop} (h : ∃ k, p k) : p (least p) := by
  unfold least; rw [dif_pos h]; exact (Classical.choose_spec (exists_least h)).1
theorem least_le {p : Nat → Prop} {k : Nat} (h : p k) : least p ≤ k := by
  unfold least; rw [dif_pos ⟨k, h⟩]; exact (Classical.choose_spec (exists_least ⟨k, h⟩)).2 k h
theorem Cd.loop {σ : Type} {c : Code} (I : σ → Prop) (Ls : σ → Env) (As : σ → List Atom) (μ : σ → Nat) (s0 : σ) (h0 : I s0) (hL : Sub (Ls s0) L) (hA : ∀ w, Sat w0 w A → Sat w0 w (As s0))
    (round : ∀ s, I s → Cd P r c (Exit.then (fun a w => ∃ s', I s' ∧ μ s' < μ s ∧ Kn n D (Ls s') a ∧ Sat w0 w (As s')) Q) w0 n D (Ls s) (As s)) : Cd P r (.loop c) Q w0 n D L A := by
  intro a w hk hs
  let p : Act → World → Nat → Prop := fun a w k => ∃ s, I s ∧ μ s = k ∧ Kn n D (Ls s) a ∧ Sat w0 w (As s)
  refine wpIn_loop (fun a w => ∃ k, p a w k) (fun a w => least (p a w)) ⟨_, s0, h0, rfl, hk.sub hL, hA w hs⟩ ?_
  intro a w hp
  obtain ⟨s, hI, hm, hk, hs⟩ := least_spec hp
  refine wpIn_mono (round s hI a w hk hs) ?_
  intro e a' w' hq
  cases e with
  | normal =>
    obtain ⟨s', hI', hlt, hk', hs'⟩ := hq
    have h1 : p a' w' (μ s') := ⟨s', hI', rfl, hk', hs'⟩
    exact ⟨⟨_, h1⟩, Nat.lt_of_le_of_lt (least_le h1) (by rw [← hm]; exact hlt)⟩
  | exit id => exact hq
  | goto l => exact hq
  | ret => exact hq
  | panic ch => exact hq
  | outgrown => exact hq
end
end Go.Proofs.YtilcdghliigngaaGreatDoorGl
namespace Go.Proofs.YtilcdghliigngaaGreatDoorGl
set_option linter.unusedVariables false
set_option linter.unusedSimpArgs false
open Go.RowKit
def blk (b : Nat) (T : TypeId) (cs : List Value) : Atom where
  P := fun w S => w.heap[b]? = some (.cells cs.toArray T (0, 0)) ∧ ∀ k, S k ↔ k = b
  loc := fun h hs => ⟨(hs b ((h.2 b).2 rfl)).trans h.1, h.2⟩
  lt := fun h hk => by rw [(h.2 _).1 hk]; exact (Array.getElem?_eq_some_iff.1 h.1).1
def row (a : Option Addr) (cap : Nat) (E : TypeId) (sz n : Nat) (cs : List Value) : Atom where
  P := fun w S => w.ownsRow 0 E sz (.slice a n cap) n cs ∧ ∀ k, S k ↔ (Value.slice a n cap).ownBlock = some k
  loc := fun {w w' S} h hs => by
    refine ⟨⟨h.1.1, ?_⟩, h.2⟩
    rcases h.1.2 with h1 | ⟨g, cp, cur, hv, hg, hh, hr⟩
    · exact .inl h1
    · refine .inr ⟨g, cp, cur, hv, hg, ?_, hr⟩
      rw [hs g ((h.2 g).2 (by rw [hv]; rfl))]; exact hh
  lt := fun h hk => (h.1.lt _ ((h.2 _).1 hk)).2
theorem Sat.mem {w0 w : World} {a : Atom} {A A' : List Atom} (h : Sat w0 w A) (hp : Pull A a A') : ∃ S, a.P w S := by
  obtain ⟨T, ⟨S, _, ha, _⟩, _⟩ := (h.pull hp).sats
  exact ⟨S, ha⟩
theorem Sat.ofBlk {w0 w : World} {b : Nat} {T : TypeId} {cs : List Value} {A A' : List Atom} (h : Sat w0 w A) (hp : Pull A (blk b T cs) A') : w.heap[b]? = some (.cells cs.toArray T (0, 0)) := by
  obtain ⟨S, h1, _⟩ := h.mem hp; exact h1
theorem cell_of_blk {w : World} {b : Nat} {T : TypeId} {cs : List Value} {fr : Nat × Nat} (h : w.heap[b]? = some (.cells cs.toArray T fr)) (o : Nat) : w.cell? ⟨b, o, none⟩ = cs[o]? := by
  simp [World.cell?, h]
def Ro (w : World) (a : Option Addr) (cs : List Value) : Prop := ∀ j u, cs[j]? = some u → ∃ b o, a = some ⟨b, o, none⟩ ∧ w.cell? ⟨b, o + j, none⟩ = some u
theorem Ro.later {w w' : World} {a : Option Addr} {cs : List Value} (h : Ro w a cs) (hb : Below w.heap.size w w') : Ro w' a cs := by
  intro j u hu
  obtain ⟨b, o, ha, hc⟩ := h j u hu
  exact ⟨b, o, ha, (hb.cell (p := ⟨b, o + j, none⟩) (World.block_lt_of_cell? w _ hc)).trans hc⟩
theorem Ro.nil (w : World) (a : Option Addr) : Ro w a [] := fun j u hu => by simp at hu
theorem Sat.own {w0 w : World} {a : Option Addr} {cap : Nat} {E : TypeId} {sz n : Nat} {cs : List Value} {A A' : List Atom} (h : Sat w0 w A) (hp : Pull A (row a cap E sz n cs) A') : w.ownsRow 0 E sz (.slice a n cap) n cs := by
  obtain ⟨S, h1, _⟩ := h.mem hp; exact h1
theorem ro_of_own {w : World} {a : Option Addr} {cap : Nat} {E : TypeId} {sz n : Nat} {cs : List Value} (h : w.ownsRow 0 E sz (.slice a n cap) n cs) : Ro w a cs := by
  intro j u hu
  rcases h.2 with ⟨_, h0⟩ | ⟨g, cp, cur, hv, _, hh, _, _, _, ht⟩
  · have := h.1; subst h0; simp at this; subst this; simp at hu
  · cases hv
    refine ⟨g, 0, rfl, ?_⟩
    rw [← ht, List.getElem?_take] at hu
    split at hu
    · simpa [World.cell?, hh] using hu
    · cases hu
theorem Sat.ownRo {w0 w : World} {a : Option Addr} {cap : Nat} {E : TypeId} {sz n : Nat} {cs : List Value} {A A' : List Atom} (h : Sat w0 w A) (hp : Pull A (row a cap E sz n cs) A') : Ro w a cs := ro_of_own (h.own hp)
def isA (P : Program) (t : TypeId) : Option Bool :=
  match P.underlying t with
  | some (.struct _) | some (.array ..) => some true
  | some _ => some false
  | none => none
def szT (P : Program) (t : TypeId) : Option Nat := (P.info? t).map (·.size)
def fo (P : Program) (s : TypeId) (f : Nat) : Option Nat :=
  match P.underlying s with
  | some (.struct fs) =>
    match fs[f]? with
    | some fd =>
      match P.info? fd.type with
      | some i => if i.size = 0 then none else some fd.offset
      | none => none
    | none => none
  | _ => none
def esz (P : Program) (t : TypeId) : Option Nat :=
  match P.underlying t with
  | some (.slice e) => (P.info? e).map (·.size)
  | _ => none
def asz (P : Program) (t : TypeId) : Option (Nat × Nat) :=
  match P.underlying t with
  | some (.array n e) => (P.info? e).map fun i => (n, i.size)
  | _ => none
def zc (P : Program) (t : TypeId) : Option (List Value) := ((P.info? t).bind (·.zero)).map fun v => v.cells.toList
section
variable {P : Program} {w : World}
theorem run_isAgg {t : TypeId} {b : Bool} (h : isA P t = some b) : (isAgg t).run P w = .ok b w := by
  unfold isA at h
  cases hu : P.underlying t with
  | none => rw [hu] at h; cases h
  | some d =>
    rw [hu] at h
    simp only [isAgg, Sem.run_bind, run_underlying hu, Result.andThen_ok]
    cases d <;> (cases h; rfl)
theorem run_sizeOf {t : TypeId} {n : Nat} (h : szT P t = some n) : (sizeOf t).run P w = .ok n w := by
  unfold szT at h
  cases hi : P.info? t with
  | none => rw [hi] at h; cases h
  | some i => rw [hi] at h; obtain rfl := Option.some.inj h; simp [sizeOf, typeInfo, hi]
theorem run_zeroValue {t : TypeId} {cs : List Value} (h : zc P t = some cs) : ∃ z : Value, z.cells.toList = cs ∧ (zeroValue t).run P w = .ok z w := by
  unfold zc at h
  cases hi : P.info? t with
  | none => rw [hi] at h; cases h
  | some i =>
    rw [hi] at h
    cases hz : i.zero with
    | none => simp [hz] at h
    | some z =>
      simp [hz] at h
      exact ⟨z, h, by simp [zeroValue, typeInfo, hi, hz]⟩
theorem run_load1 {t : TypeId} {b o : Nat} {v : Value} (ht : isA P t = some false) (hc : w.cell? ⟨b, o, none⟩ = some v) : (loadVar t ⟨b, o, none⟩).run P w = .ok v w := by
  simp only [loadVar, Sem.run_bind, run_isAgg ht, Result.andThen_ok, Bool.false_eq_true, if_false]
  simp [Sem.run, load, hc]
theorem add_at (b o k : Nat) : (⟨b, o, none⟩ : Addr).add k = ⟨b, o + k, none⟩ := by
  unfold Addr.add; split
  · subst_vars; rfl
  · rfl
theorem run_loadN {t : TypeId} {b o : Nat} {vs : List Value} (ht : isA P t = some true) (hz : szT P t = some vs.length) (hc : ∀ j u, vs[j]? = some u → w.cell? ⟨b, o + j, none⟩ = some u) : (loadVar t ⟨b, o, none⟩).run P w = .ok (.agg vs.toArray) w := by
  have h1 := run_loadCells_list (P := P) w ⟨b, o, none⟩ vs (fun j v hj => by rw [add_at]; exact hc j v hj)
  simp only [loadVar, Sem.run_bind, run_isAgg ht, Result.andThen_ok, if_true, run_sizeOf hz, h1, Sem.run_pure]
end
section
variable {P : Program} {r : Option Nat} {ops : Array Oper} {Q : Exit → Act → World → Prop} {w0 : World} {n : Nat} {D : List Deferred} {rest : List Oper} {L : Env} {A : List Atom}
variable {t : Nat} {ty : TypeId} {pos : String} {af : Array Edge} {g : Option (Nat × Bool)}
theorem q_mv {x : Operand} {v : Value} (hx : ev L x = some v) : Qv P w0 n D L A (.move x) (v) := fun a w hk _ _ _ _ _ _ => ⟨by simp only [execOp, hk.ev hx]; rfl, rfl⟩
theorem q_asg {x : Operand} {v : Value} (hx : ev L x = some v) : Qv P w0 n D L A (.assign x) (v) := fun a w hk _ _ _ _ _ _ => ⟨by simp only [execOp, hk.ev hx]; rfl, rfl⟩
theorem Ops.sk {op : Op} (h : Ops P r ops Q w0 n D rest ((t, undef) :: L) A)
    (hg : gd ops L ⟨some t, op, ty, pos, af, g⟩ = some false := by rfl) (ht : Nat.blt t n = true := by rfl) :
    Ops P r ops Q w0 n D (⟨some t, op, ty, pos, af, g⟩ :: rest) L A := Ops.skip hg rfl ht h
theorem q_pickT {c x y : Operand} {v : Value} (hc : ev L c = some (.bool true)) (hx : ev L x = some v) : Qv P w0 n D L A (.pick c x y) v := fun a w hk _ _ _ _ _ _ => ⟨by simp [execOp, hk.ev hx, hk.ev hc, asBool], rfl⟩
theorem q_pickF {c x y : Operand} {v : Value} (hc : ev L c = some (.bool false)) (hy : ev L y = some v) : Qv P w0 n D L A (.pick c x y) (v) := fun a w hk _ _ _ _ _ _ => ⟨by simp [execOp, hk.ev hy, hk.ev hc, asBool], rfl⟩
def cmpV : BinOp → Int → Int → Option Bool
  | .lss, i, j => some (decide (i < j))
  | .leq, i, j => some (decide (i ≤ j))
  | .gtr, i, j => some (decide (j < i))
  | .geq, i, j => some (decide (j ≤ i))
  | .eql, i, j => some (i == j)
  | .neq, i, j => some (i != j)
  | _, _, _ => none
theorem c_lt {i j : Int} (h : i < j) : cmpV .lss i j = some true := by simp [cmpV, h]
theorem c_nlt {i j : Int} (h : j ≤ i) : cmpV .lss i j = some false := by simp [cmpV]; omega
theorem c_le {i j : Int} (h : i ≤ j) : cmpV .leq i j = some true := by simp [cmpV, h]
theorem c_nle {i j : Int} (h : j < i) : cmpV .leq i j = some false := by simp [cmpV]; omega
theorem c_gt {i j : Int} (h : j < i) : cmpV .gtr i j = some true := by simp [cmpV, h]
theorem c_ngt {i j : Int} (h : i ≤ j) : cmpV .gtr i j = some false := by simp [cmpV]; omega
theorem c_ge {i j : Int} (h : j ≤ i) : cmpV .geq i j = some true := by simp [cmpV, h]
theorem c_nge {i j : Int} (h : i < j) : cmpV .geq i j = some false := by simp [cmpV]; omega
theorem c_eq {i j : Int} (h : i = j) : cmpV .eql i j = some true := by simp [cmpV, h]
theorem c_neq {i j : Int} (h : i ≠ j) : cmpV .eql i j = some false := by simp [cmpV, h]
theorem c_ne {i j : Int} (h : i ≠ j) : cmpV .neq i j = some true := by simp [cmpV, h]
theorem c_nne {i j : Int} (h : i = j) : cmpV .neq i j = some false := by simp [cmpV, h]
theorem q_cmp {op : BinOp} {tx tz : TypeId} {x y : Operand} {k : IntKind} {i j : Int} {b : Bool} (hx : ev L x = some (.int k i)) (hy : ev L y = some (.int k j)) (hb : cmpV op i j = some b) : Qv P w0 n D L A (.binOp op tx x y tz) (.bool b) := fun a w hk _ _ _ _ _ _ => ⟨by
    cases op <;> simp only [cmpV, Option.some.injEq, reduceCtorEq] at hb <;> subst hb <;> simp [execOp, hk.ev hx, hk.ev hy, eqGuard, binOp, Op.intCmp], rfl⟩
def arV : BinOp → IntKind → Int → Int → Option Int
  | .add, k, i, j => some (k.wrap (i + j))
  | .sub, k, i, j => some (k.wrap (i - j))
  | .mul, k, i, j => some (k.wrap (i * j))
  | .quo, k, i, j => if j = 0 then none else some (k.wrap (i.tdiv j))
  | .rem, _, i, j => if j = 0 then none else some (i.tmod j)
  | _, _, _, _ => none
theorem a_add {i j : Int} (h : -9223372036854775808 ≤ i + j ∧ i + j ≤ 9223372036854775807) : arV .add .i64 i j = some (i + j) := by simp only [arV, IntWalk.i64_in _ h]
theorem a_sub {i j : Int} (h : -9223372036854775808 ≤ i - j ∧ i - j ≤ 9223372036854775807) : arV .sub .i64 i j = some (i - j) := by simp only [arV, IntWalk.i64_in _ h]
theorem a_mul {i j : Int} (h : -9223372036854775808 ≤ i * j ∧ i * j ≤ 9223372036854775807) : arV .mul .i64 i j = some (i * j) := by simp only [arV, IntWalk.i64_in _ h]
theorem a_inc {k : Nat} (h : k < 9223372036854775807) : arV .add .i64 (k : Int) 1 = some ((k + 1 : Nat) : Int) := by
  rw [a_add (by omega)]; rfl
theorem a_rem {i j : Int} (hi : 0 ≤ i) (hj : j ≠ 0) : arV .rem .i64 i j = some (i % j) := by simp only [arV, if_neg hj, Int.tmod_eq_emod_of_nonneg hi]
theorem q_ar {op : BinOp} {tx tz : TypeId} {x y : Operand} {k : IntKind} {i j v : Int} (hx : ev L x = some (.int k i)) (hy : ev L y = some (.int k j)) (hv : arV op k i j = some v) : Qv P w0 n D L A (.binOp op tx x y tz) (.int k v) := fun a w hk _ _ _ _ _ _ => ⟨by
    cases op <;> simp only [arV, Option.some.injEq, reduceCtorEq] at hv
    case quo => split at hv <;> simp_all [execOp, hk.ev hx, hk.ev hy, eqGuard, binOp, Op.intDiv]
    case rem => split at hv <;> simp_all [execOp, hk.ev hx, hk.ev hy, eqGuard, binOp, Op.intDiv]
    all_goals subst hv; simp [execOp, hk.ev hx, hk.ev hy, eqGuard, binOp, Op.intArith], rfl⟩
theorem q_not {tx : TypeId} {x : Operand} {b : Bool} (hx : ev L x = some (.bool b)) : Qv P w0 n D L A (.unOp .not tx x) (.bool (!b)) := fun a w hk _ _ _ _ _ _ => ⟨by simp [execOp, hk.ev hx, Op.unary], rfl⟩
theorem q_neg {tx : TypeId} {x : Operand} {k : IntKind} {i v : Int} (hx : ev L x = some (.int k i)) (hv : arV .sub k 0 i = some v) : Qv P w0 n D L A (.unOp .neg tx x) (.int k v) := fun a w hk _ _ _ _ _ _ => ⟨by simp only [arV, Option.some.injEq] at hv; subst hv; simp [execOp, hk.ev hx, Op.unary, Op.intArith], rfl⟩
def iK (P : Program) (t : TypeId) : Option IntKind :=
  match P.underlying t with
  | some (.int k) => some k
  | _ => none
theorem iK_u {t : TypeId} {k : IntKind} (h : iK P t = some k) : P.underlying t = some (.int k) := by
  unfold iK at h
  cases hu : P.underlying t with
  | none => rw [hu] at h; cases h
  | some d => rw [hu] at h; cases d <;> cases h; rfl
theorem q_conv {s d : TypeId} {x : Operand} {k k1 k2 : IntKind} {i v : Int} (h1 : iK P s = some k1) (h2 : iK P d = some k2) (hx : ev L x = some (.int k i)) (hv : k2.wrap i = v) : Qv P w0 n D L A (.convert s d x) (.int k2 v) := fun a w hk _ _ _ _ _ _ => ⟨by subst hv; simp [execOp, hk.ev hx, convert, run_underlying (iK_u h1), run_underlying (iK_u h2), Conv.intToInt], rfl⟩
theorem q_ext {x : Operand} {i : Nat} {vs : Array Value} {v : Value} (hx : ev L x = some (.tuple vs)) (hv : vs[i]? = some v) : Qv P w0 n D L A (.extract x i) (v) := fun a w hk _ _ _ _ _ _ => ⟨by simp [execOp, hk.ev hx, Instr.extract, hv], rfl⟩
def evs (L : Env) : List Operand → Option (List Value)
  | [] => some []
  | x :: xs => match ev L x, evs L xs with
    | some v, some vs => some (v :: vs)
    | _, _ => none
theorem evs_ok {a : Act} (hk : Kn n D L a) : ∀ {xs : List Operand} {vs : List Value}, evs L xs = some vs → xs.map a.eval = vs
  | [], vs, h => by simp [evs] at h; simp [h]
  | x :: xs, vs, h => by
    simp only [evs] at h
    cases hx : ev L x with
    | none => rw [hx] at h; cases h
    | some v =>
      cases hxs : evs L xs with
      | none => rw [hx, hxs] at h; cases h
      | some us =>
        rw [hx, hxs] at h
        obtain rfl := Option.some.inj h
        simp [hk.ev hx, evs_ok hk hxs]
theorem q_mkf {fn : Fn} {xs ys : List Operand} {vs us : List Value} (hx : evs L xs = some vs) (hy : evs L ys = some us) : Qv P w0 n D L A (.makeFunc fn xs.toArray ys.toArray) (.func fn vs.toArray us.toArray) := fun a w hk _ _ _ _ _ _ => ⟨by simp [execOp, Instr.makeFunc, evs_ok hk hx, evs_ok hk hy], rfl⟩
theorem q_nck {x : Operand} {p : Addr} (hx : ev L x = some (.pointer (some p))) : Qv P w0 n D L A (.nilCheck x) (.pointer (some p)) := fun a w hk _ _ _ _ _ _ => ⟨by simp [execOp, hk.ev hx], rfl⟩
theorem run_fieldAt {w : World} {s : TypeId} {f off : Nat} (h : fo P s f = some off) (a : Addr) : (Instr.fieldAt s (.pointer (some a)) f).run P w = .ok (.pointer (some (a.add off))) w := by
  unfold fo at h
  cases hu : P.underlying s with
  | none => rw [hu] at h; cases h
  | some d =>
    rw [hu] at h
    cases d <;> try (cases h; done)
    rename_i fs
    simp only [] at h
    cases hf : fs[f]? with
    | none => rw [hf] at h; cases h
    | some fd =>
      rw [hf] at h
      simp only [] at h
      cases hi : P.info? fd.type with
      | none => rw [hi] at h; cases h
      | some i =>
        rw [hi] at h
        simp only [] at h
        split at h
        · cases h
        · rename_i hne
          obtain rfl := Option.some.inj h
          simp [Instr.fieldAt, run_underlying hu, hf, Instr.sureAddr, fieldPlace, sizeOf, typeInfo, hi, hne]
theorem q_fa {s : TypeId} {x : Operand} {f off b o : Nat} (hf : fo P s f = some off) (hx : ev L x = some (.pointer (some ⟨b, o, none⟩))) : Qv P w0 n D L A (.fieldAddr s x f) (.pointer (some ⟨b, o + off, none⟩)) := fun a w hk _ _ _ _ _ _ => ⟨by simp only [execOp, hk.ev hx, Sem.run_bind, run_fieldAt hf, add_at, Result.andThen_ok, Sem.run_pure], rfl⟩
theorem run_indexS {w : World} {s : TypeId} {z : Nat} (hz : esz P s = some z) (b o len cap : Nat) (kd : IntKind) (i : Int) (h0 : 0 ≤ i) (h1 : i < len) :
    (Instr.indexAt s (.slice (some ⟨b, o, none⟩) len cap) (.int kd i)).run P w = .ok (.pointer (some ⟨b, o + i.toNat * z, none⟩)) w := by
  unfold esz at hz
  cases hu : P.underlying s with
  | none => rw [hu] at hz; cases hz
  | some d =>
    rw [hu] at hz
    cases d <;> try (cases hz; done)
    rename_i e
    obtain ⟨i', hi, rfl⟩ := Option.map_eq_some_iff.1 hz
    simp [Instr.indexAt, asIntOf, run_underlying hu, h0, h1, sizeOf, typeInfo, hi, add_at]
theorem q_ix {s : TypeId} {x y : Operand} {z b o len cap k : Nat} {kd : IntKind} (hz : esz P s = some z) (hx : ev L x = some (.slice (some ⟨b, o, none⟩) len cap)) (hy : ev L y = some (.int kd (k : Int))) (hk : k < len)
    : Qv P w0 n D L A (.indexAddr s x y) (.pointer (some ⟨b, o + k * z, none⟩)) := fun a w hk' _ _ _ _ _ _ => ⟨by simp only [execOp, hk'.ev hx, hk'.ev hy, Sem.run_bind, run_indexS hz b o len cap kd k (by omega) (by omega), Result.andThen_ok, Sem.run_pure, Int.toNat_natCast], rfl⟩
theorem q_ix1 {s : TypeId} {x y : Operand} {b o len cap k : Nat} {kd : IntKind} (hz : esz P s = some 1) (hx : ev L x = some (.slice (some ⟨b, o, none⟩) len cap)) (hy : ev L y = some (.int kd (k : Int))) (hk : k < len)
    : Qv P w0 n D L A (.indexAddr s x y) (.pointer (some ⟨b, o + k, none⟩)) := by have := q_ix (P := P) (w0 := w0) (n := n) (D := D) (A := A) hz hx hy hk; rwa [Nat.mul_one] at this
theorem q_len {x : Operand} {s : TypeId} {a : Option Addr} {len cap z : Nat} (hz : esz P s = some z) (hx : ev L x = some (.slice a len cap)) : Qv P w0 n D L A (.call ⟨.builtin .len, #[x], #[s]⟩) (.int .i64 (len : Int)) := fun a w hk _ _ _ _ _ _ => ⟨by
    unfold esz at hz
    cases hu : P.underlying s with
    | none => rw [hu] at hz; cases hz
    | some d =>
      rw [hu] at hz
      cases d <;> try (cases hz; done)
      simp [execOp, resolve, invoke, builtin, hk.ev hx, Builtin.len_, run_underlying hu, goInt], rfl⟩
end
end Go.Proofs.YtilcdghliigngaaGreatDoorGl
namespace Go.Proofs.YtilcdghliigngaaGreatDoorGl
set_option linter.unusedVariables false
set_option linter.unusedSimpArgs false
open Go.RowKit
theorem Ro.at {w : World} {b o : Nat} {cs : List Value} (h : Ro w (some ⟨b, o, none⟩) cs) {j : Nat} {u : Value} (hu : cs[j]? = some u) : w.cell? ⟨b, o + j, none⟩ = some u := by
  obtain ⟨b', o', he, hc⟩ := h j u hu
  cases he; exact hc
theorem Ro.pos {w : World} {a : Option Addr} {cs : List Value} (h : Ro w a cs) (hne : 0 < cs.length) : ∃ b o, a = some ⟨b, o, none⟩ := by
  obtain ⟨b, o, he, _⟩ := h 0 _ (List.getElem?_eq_getElem hne)
  exact ⟨b, o, he⟩
theorem Sat.old {w0 w : World} {A : List Atom} (h : Sat w0 w A) {p : Addr} {v : Value} (hc : w0.cell? p = some v) : w.cell? p = some v :=
  (h.below.cell (World.block_lt_of_cell? w0 _ hc)).trans hc
section
variable {P : Program} {r : Option Nat} {ops : Array Oper} {Q : Exit → Act → World → Prop} {w0 : World} {n : Nat} {D : List Deferred} {rest : List Oper} {L : Env} {A : List Atom}
variable {t : Nat} {ty : TypeId} {pos : String} {af : Array Edge} {g : Option (Nat × Bool)}
theorem q_ld {s : TypeId} {x : Operand} {b o : Nat} {v : Value} (hs : isA P s = some false) (hx : ev L x = some (.pointer (some ⟨b, o, none⟩))) (hc : ∀ w, Sat w0 w A → w.cell? ⟨b, o, none⟩ = some v)
    : Qv P w0 n D L A (.load s x) (v) := fun a w hk hs' _ _ _ _ _ => ⟨by simp [execOp, hk.ev hx, Instr.loadAt, Instr.sureAddr, run_load1 hs (hc w hs')], rfl⟩
theorem q_ldN {s : TypeId} {x : Operand} {b o : Nat} {vs : List Value} (hs : isA P s = some true) (hz : szT P s = some vs.length) (hx : ev L x = some (.pointer (some ⟨b, o, none⟩)))
    (hc : ∀ w, Sat w0 w A → ∀ j u, vs[j]? = some u → w.cell? ⟨b, o + j, none⟩ = some u)
    : Qv P w0 n D L A (.load s x) (.agg vs.toArray) := fun a w hk hs' _ _ _ _ _ => ⟨by simp [execOp, hk.ev hx, Instr.loadAt, Instr.sureAddr, run_loadN hs hz (hc w hs')], rfl⟩
theorem Sat.atB {w0 w : World} {b : Nat} {T : TypeId} {cs : List Value} {A A' : List Atom} {o : Nat} {v : Value} (hp : Pull A (blk b T cs) A') (hv : cs[o]? = some v) : Sat w0 w A → w.cell? ⟨b, o, none⟩ = some v :=
  fun h => (cell_of_blk (h.ofBlk hp) o).trans hv
theorem q_ldB {s : TypeId} {x : Operand} {b o : Nat} {v : Value} {T : TypeId} {cs : List Value} {A' : List Atom} (hs : isA P s = some false) (hx : ev L x = some (.pointer (some ⟨b, o, none⟩))) (hp : Pull A (blk b T cs) A') (hv : cs[o]? = some v)
    : Qv P w0 n D L A (.load s x) (v) := q_ld hs hx (fun _ => Sat.atB hp hv)
theorem q_ldBN {s : TypeId} {x : Operand} {b o : Nat} (vs : List Value) {T : TypeId} {cs : List Value} {A' : List Atom} (hs : isA P s = some true) (hz : szT P s = some vs.length) (hx : ev L x = some (.pointer (some ⟨b, o, none⟩))) (hp : Pull A (blk b T cs) A')
    (hv : (cs.drop o).take vs.length = vs) : Qv P w0 n D L A (.load s x) (.agg vs.toArray) := q_ldN hs hz hx (fun w hs' j u hu => Sat.atB hp (by
      rw [← hv, List.getElem?_take] at hu
      split at hu
      · rwa [List.getElem?_drop] at hu
      · cases hu) hs')
theorem q_ldR {s : TypeId} {x : Operand} {b o : Nat} {v : Value} (hs : isA P s = some false) (hx : ev L x = some (.pointer (some ⟨b, o, none⟩))) (hc : w0.cell? ⟨b, o, none⟩ = some v)
    : Qv P w0 n D L A (.load s x) (v) := q_ld hs hx (fun _ hs' => hs'.old hc)
theorem q_ldRN {s : TypeId} {x : Operand} {b o : Nat} (vs : List Value) (hs : isA P s = some true) (hz : szT P s = some vs.length) (hx : ev L x = some (.pointer (some ⟨b, o, none⟩))) (hc : ∀ j u, vs[j]? = some u → w0.cell? ⟨b, o + j, none⟩ = some u)
    : Qv P w0 n D L A (.load s x) (.agg vs.toArray) := q_ldN hs hz hx (fun _ hs' j u hu => hs'.old (hc j u hu))
theorem Sat.atO {w0 w : World} {b cap : Nat} {E : TypeId} {sz m : Nat} {cs : List Value} {A A' : List Atom} {o : Nat} {v : Value} (hp : Pull A (row (some ⟨b, 0, none⟩) cap E sz m cs) A') (hv : cs[o]? = some v) : Sat w0 w A → w.cell? ⟨b, o, none⟩ = some v :=
  fun h => by have := Ro.at (h.ownRo hp) hv; rwa [Nat.zero_add] at this
theorem q_ldO {s : TypeId} {x : Operand} {b o cap : Nat} {v : Value} {E : TypeId} {sz m : Nat} {cs : List Value} {A' : List Atom} (hs : isA P s = some false) (hx : ev L x = some (.pointer (some ⟨b, o, none⟩))) (hp : Pull A (row (some ⟨b, 0, none⟩) cap E sz m cs) A') (hv : cs[o]? = some v)
    : Qv P w0 n D L A (.load s x) (v) := q_ld hs hx (fun _ => Sat.atO hp hv)
theorem q_ldON {s : TypeId} {x : Operand} {b o cap : Nat} (vs : List Value) {E : TypeId} {sz m : Nat} {cs : List Value} {A' : List Atom} (hs : isA P s = some true) (hz : szT P s = some vs.length) (hx : ev L x = some (.pointer (some ⟨b, o, none⟩))) (hp : Pull A (row (some ⟨b, 0, none⟩) cap E sz m cs) A')
    (hv : (cs.drop o).take vs.length = vs) : Qv P w0 n D L A (.load s x) (.agg vs.toArray) := q_ldN hs hz hx (fun w hs' j u hu => Sat.atO hp (by
      rw [← hv, List.getElem?_take] at hu
      split at hu
      · rwa [List.getElem?_drop] at hu
      · cases hu) hs')
theorem Ops.rowpos {a : Option Addr} {cap : Nat} {E : TypeId} {sz m : Nat} {cs : List Value} {A' : List Atom} (hp : Pull A (row a cap E sz m cs) A') (hm : 0 < m) (h : ∀ b, a = some ⟨b, 0, none⟩ → Ops P r ops Q w0 n D rest L A) : Ops P r ops Q w0 n D rest L A := by
  intro ac w hk hs
  rcases (hs.own hp).2 with ⟨_, h0⟩ | ⟨b, _, _, hv, _⟩
  · omega
  · cases hv; exact h b rfl ac w hk hs
theorem Cd.rowpos {c : Code} {a : Option Addr} {cap : Nat} {E : TypeId} {sz m : Nat} {cs : List Value} {A' : List Atom} (hp : Pull A (row a cap E sz m cs) A') (hm : 0 < m) (h : ∀ b, a = some ⟨b, 0, none⟩ → Cd P r c Q w0 n D L A) : Cd P r c Q w0 n D L A := by
  intro ac w hk hs
  rcases (hs.own hp).2 with ⟨_, h0⟩ | ⟨b, _, _, hv, _⟩
  · omega
  · cases hv; exact h b rfl ac w hk hs
theorem Sat.new {w : World} {A : List Atom} (h : Sat w0 w A) (T : TypeId) (cs : List Value) : Sat w0 (w.alloc (.cells cs.toArray T)) (blk w.heap.size T cs :: A) :=
  h.add (Below.alloc (Below.refl _ _) (Nat.le_refl _) _) (S := fun k => k = w.heap.size) ⟨heap_alloc_new w _, fun _ => Iff.rfl⟩ (fun _ hk => by omega)
theorem Ops.box {T : TypeId} {x : Operand} {v : Value} (cs : List Value) (hx : ev L x = some v) (hv : v.cells.toList = cs) (h : ∀ b, Ops P r ops Q w0 n D rest ((t, .pointer (some ⟨b, 0, none⟩)) :: L) (blk b T cs :: A))
    (hg : gd ops L ⟨some t, .box T x, ty, pos, af, g⟩ = some true := by rfl) (ht : Nat.blt t n = true := by rfl) :
    Ops P r ops Q w0 n D (⟨some t, .box T x, ty, pos, af, g⟩ :: rest) L A :=
  Ops.val (v := fun b => .pointer (some ⟨b, 0, none⟩)) (A' := fun b => blk b T cs :: A) hg rfl ht rfl (fun a w hk hs => by
    refine ⟨w.heap.size, _, ?_, hs.new T cs⟩
    subst hv
    simp [execOp, hk.ev hx, Instr.box, newVar, newRow, newObj, Sem.run]) h
theorem Ops.alc {T : TypeId} (cs : List Value) (hz : zc P T = some cs) (h : ∀ b, Ops P r ops Q w0 n D rest ((t, .pointer (some ⟨b, 0, none⟩)) :: L) (blk b T cs :: A))
    (hg : gd ops L ⟨some t, .alloc T, ty, pos, af, g⟩ = some true := by rfl) (ht : Nat.blt t n = true := by rfl) :
    Ops P r ops Q w0 n D (⟨some t, .alloc T, ty, pos, af, g⟩ :: rest) L A :=
  Ops.val (v := fun b => .pointer (some ⟨b, 0, none⟩)) (A' := fun b => blk b T cs :: A) hg rfl ht rfl (fun a w hk hs => by
    obtain ⟨z, hz1, hz2⟩ := run_zeroValue (w := w) hz
    refine ⟨w.heap.size, _, ?_, hs.new T cs⟩
    subst hz1
    simp [execOp, Instr.alloc, hz2, newVar, newRow, newObj, Sem.run]) h
def putL (cs : List Value) (o : Nat) : List Value → List Value
  | [] => cs
  | v :: vs => putL (cs.set o v) (o + 1) vs
def fillL (ps : Nat → Option (Nat × Nat)) (cs : List Value) : List (Nat × Value) → Option (List Value)
  | [] => some cs
  | (i, v) :: rest =>
    match ps i with
    | none => none
    | some (o, sz) => if v.cells.size = sz ∧ o + sz ≤ cs.length then fillL ps (putL cs o v.cells.toList) rest else none
theorem fold_put : ∀ (vs : List Value) (k : Nat) (cs : List Value) (o : Nat), (vs.zipIdx k).foldl (fun (cs : Array Value) (p : Value × Nat) => cs.setIfInBounds (o + p.2) p.1) cs.toArray = (putL cs (o + k) vs).toArray
  | [], k, cs, o => rfl
  | v :: vs, k, cs, o => by
    simp only [List.zipIdx_cons, List.foldl_cons, putL]
    rw [List.setIfInBounds_toArray, fold_put vs (k + 1) (cs.set (o + k) v) o]
    rfl
theorem fill_eq (ps : Nat → Option (Nat × Nat)) : ∀ (parts : List (Nat × Value)) (cs out : List Value), fillL ps cs parts = some out → Instr.fill ps cs.toArray parts = some out.toArray
  | [], cs, out, h => by simp only [fillL, Option.some.injEq] at h; subst h; rfl
  | (i, v) :: rest, cs, out, h => by
    simp only [fillL] at h
    cases hp : ps i with
    | none => rw [hp] at h; cases h
    | some q =>
      obtain ⟨o, sz⟩ := q
      rw [hp] at h
      simp only [] at h
      split at h
      · rename_i hc
        obtain ⟨h1, h2⟩ := hc
        simp only [Instr.fill, hp]
        rw [if_neg (by simp [h1]; omega)]
        have := fold_put v.cells.toList 0 cs o
        rw [← Array.foldl_toList, Array.toList_zipIdx]
        rw [this, Nat.add_zero]
        exact fill_eq ps rest _ out h
      · cases h
def pls (P : Program) (t : TypeId) : Option (List (Nat × Nat)) :=
  match P.underlying t with
  | some (.struct fs) => fs.toList.mapM fun f => (P.info? f.type).map fun i => (f.offset, i.size)
  | _ => none
def evp (L : Env) : List (Nat × Operand) → Option (List (Nat × Value))
  | [] => some []
  | (i, x) :: xs => match ev L x, evp L xs with
    | some v, some vs => some ((i, v) :: vs)
    | _, _ => none
theorem evp_ok {a : Act} (hk : Kn n D L a) : ∀ {xs : List (Nat × Operand)} {vs : List (Nat × Value)}, evp L xs = some vs → xs.map (fun p => (p.1, a.eval p.2)) = vs
  | [], vs, h => by simp [evp] at h; simp [h]
  | (i, x) :: xs, vs, h => by
    simp only [evp] at h
    cases hx : ev L x with
    | none => rw [hx] at h; cases h
    | some v =>
      cases hxs : evp L xs with
      | none => rw [hx, hxs] at h; cases h
      | some us =>
        rw [hx, hxs] at h
        obtain rfl := Option.some.inj h
        simp [hk.ev hx, evp_ok hk hxs]
theorem run_pls {w : World} : ∀ {fs : List Field} {ps : List (Nat × Nat)}, fs.mapM (fun f => (P.info? f.type).map fun i => (f.offset, i.size)) = some ps →
    (fs.mapM (m := Sem) fun f => do pure (f.offset, ← sizeOf f.type)).run P w = .ok ps w
  | [], ps, h => by simp at h; subst h; rfl
  | f :: fs, ps, h => by
    rw [List.mapM_cons] at h
    cases hi : P.info? f.type with
    | none => rw [hi] at h; cases h
    | some i =>
      rw [hi] at h
      cases hr : fs.mapM (fun f => (P.info? f.type).map fun i => (f.offset, i.size)) with
      | none => rw [hr] at h; cases h
      | some qs =>
        rw [hr] at h
        have h' : ps = (f.offset, i.size) :: qs := by simpa using h.symm
        subst h'
        rw [List.mapM_cons]
        simp only [Sem.run_bind, run_sizeOf (t := f.type) (show szT P f.type = some i.size by simp [szT, hi]), Result.andThen_ok, Sem.run_pure, run_pls hr]
theorem run_build {w : World} {T : TypeId} {zs cs : List Value} {ps : List (Nat × Nat)} {parts : List (Nat × Value)} (hp : pls P T = some ps) (hz : zc P T = some zs) (hf : fillL (ps[·]?) zs parts = some cs) :
    (Instr.build T parts.toArray).run P w = .ok (.agg cs.toArray) w := by
  unfold pls at hp
  cases hu : P.underlying T with
  | none => rw [hu] at hp; cases hp
  | some d =>
    rw [hu] at hp
    cases d <;> try (cases hp; done)
    rename_i fs
    obtain ⟨z, hz1, hz2⟩ := run_zeroValue (w := w) hz
    have h1 := run_pls (w := w) hp
    have h2 : (fs.mapM (m := Sem) fun f => do pure (f.offset, ← sizeOf f.type)).run P w = .ok ps.toArray w := by
      rw [Array.mapM_eq_mapM_toList, map_eq_pure_bind]
      simp only [Sem.run_bind, h1, Result.andThen_ok, Sem.run_pure]
    have h3 := fill_eq (ps[·]?) parts zs cs hf
    subst hz1
    simp only [Instr.build, Sem.run_bind, hz2, Result.andThen_ok, run_underlying hu, h2]
    have h4 : Instr.fill (fun i => ps.toArray[i]?) z.cells parts.toArray.toList = some cs.toArray := by simpa using h3
    simp only [h4, Sem.run_pure]
end
end Go.Proofs.YtilcdghliigngaaGreatDoorGl
namespace Go.Proofs.YtilcdghliigngaaGreatDoorGl
set_option linter.unusedVariables false
set_option linter.unusedSimpArgs false
open Go.RowKit
def elT (P : Program) (t : TypeId) : Option TypeId :=
  match P.underlying t with
  | some (.slice e) => some e
  | _ => none
theorem elT_u {P : Program} {t e : TypeId} (h : elT P t = some e) : P.underlying t = some (.slice e) := by
  unfold elT at h
  cases hu : P.underlying t with
  | none => rw [hu] at h; cases h
  | some d => rw [hu] at h; cases d <;> cases h; rfl
def zsb (P : Program) (t : TypeId) : Option (List Value × Nat × Nat) :=
  match P.info? t with
  | some i => match i.zero with
    | some z => if z.cells.size = i.size then some (z.cells.toList, i.size, i.bytes) else none
    | none => none
  | none => none
theorem zsb_u {P : Program} {t : TypeId} {zs : List Value} {sz by_ : Nat} (h : zsb P t = some (zs, sz, by_)) : ∃ i z, P.info? t = some i ∧ i.zero = some z ∧ i.size = sz ∧ i.bytes = by_ ∧ z.cells.size = sz ∧ z.cells.toList = zs := by
  unfold zsb at h
  cases hi : P.info? t with
  | none => rw [hi] at h; cases h
  | some i =>
    rw [hi] at h
    simp only [] at h
    cases hz : i.zero with
    | none => rw [hz] at h; cases h
    | some z =>
      rw [hz] at h
      simp only [] at h
      split at h
      · rename_i hs
        cases h
        exact ⟨i, z, rfl, hz, rfl, rfl, hs, rfl⟩
      · cases h
def rep (n : Nat) (z : List Value) : List Value := (List.replicate n z).flatten
theorem rep_length (n : Nat) (z : List Value) : (rep n z).length = n * z.length := by simp [rep]
theorem rep_eq (z : Array Value) (n : Nat) : ((Array.range (n * z.size)).map (fun i => z[i % z.size]!)).toList = rep n z.toList := by
  apply List.ext_getElem?
  intro i
  simp only [Array.toList_map, Array.toList_range, List.getElem?_map]
  by_cases hi : i < n * z.size
  · have hz : 0 < z.size := by
      rcases Nat.eq_zero_or_pos z.size with h | h
      · rw [h] at hi; omega
      · exact h
    have hm : i % z.size < z.size := Nat.mod_lt _ hz
    have key : ∀ (n i : Nat), i < n * z.size → (rep n z.toList)[i]? = some z[i % z.size]! := by
      intro n
      induction n with
      | zero => intro i h; omega
      | succ n ih =>
        intro i h
        have e : rep (n + 1) z.toList = z.toList ++ rep n z.toList := by simp [rep, List.replicate_succ]
        rw [e, List.getElem?_append]
        by_cases h1 : i < z.size
        · rw [if_pos (by simpa using h1), Nat.mod_eq_of_lt h1]
          simp [h1]
        · rw [if_neg (by simpa using h1)]
          simp only [Array.length_toList]
          rw [ih (i - z.size) (by rw [Nat.succ_mul] at h; omega)]
          congr 2
          rw [← Nat.mod_eq_sub_mod (by omega)]
    rw [key n i hi]
    simp [hi]
  · rw [List.getElem?_eq_none (by simp; omega), List.getElem?_eq_none (by rw [rep_length]; simpa using hi)]
    rfl
section
variable {P : Program} {r : Option Nat} {ops : Array Oper} {Q : Exit → Act → World → Prop} {w0 : World} {n : Nat} {D : List Deferred} {rest : List Oper} {L : Env} {A : List Atom}
variable {t : Nat} {ty : TypeId} {pos : String} {af : Array Edge} {g : Option (Nat × Bool)}
theorem q_bld {T : TypeId} {zs : List Value} (cs : List Value) {ps : List (Nat × Nat)} {xs : List (Nat × Operand)} {vs : List (Nat × Value)} (hp : pls P T = some ps) (hz : zc P T = some zs) (hx : evp L xs = some vs)
    (hf : fillL (ps[·]?) zs vs = some cs) : Qv P w0 n D L A (.build T xs.toArray) (.agg cs.toArray) := fun a w hk _ _ _ _ _ _ => ⟨by
    have e : (xs.toArray.map fun (i, x) => (i, a.eval x)) = vs.toArray := by
      rw [List.map_toArray, show xs.map (fun (i, x) => (i, a.eval x)) = vs from evp_ok hk hx]
    simp only [execOp, e, Sem.run_bind, run_build hp hz hf, Result.andThen_ok, Sem.run_pure], rfl⟩
theorem Sat.newRow {w : World} {A : List Atom} (h : Sat w0 w A) (E : TypeId) (sz m : Nat) (cs : List Value) (hl : cs.length = m * sz) (hm : m ≤ maxLen) :
    Sat w0 (w.alloc (.cells cs.toArray E)) (row (some ⟨w.heap.size, 0, none⟩) m E sz m cs :: A) :=
  h.add (Below.alloc (Below.refl _ _) (Nat.le_refl _) _) (S := fun k => k = w.heap.size)
    ⟨⟨hl, .inr ⟨w.heap.size, m, cs.toArray, rfl, Nat.zero_le _, heap_alloc_new w _, Nat.le_refl _, hm, by simpa using hl, by simp [← hl]⟩⟩, fun k => by simp [Value.ownBlock, eq_comm]⟩ (fun _ hk => by omega)
theorem Ops.lit {T E : TypeId} {zs : List Value} {sz by_ m : Nat} (cs : List Value) {xs : List (Nat × Operand)} {vs : List (Nat × Value)} (hT : elT P T = some E) (hE : zsb P E = some (zs, sz, by_)) (hx : evp L xs = some vs)
    (hf : fillL (fun i => some (i * sz, sz)) (rep m zs) vs = some cs) (hm : m * sz ≤ 65536 ∧ m ≤ 65536) (hl : cs.length = m * sz)
    (h : ∀ b, Ops P r ops Q w0 n D rest ((t, .slice (some ⟨b, 0, none⟩) m m) :: L) (row (some ⟨b, 0, none⟩) m E sz m cs :: A))
    (hg : gd ops L ⟨some t, .buildSlice T m xs.toArray, ty, pos, af, g⟩ = some true := by rfl) (ht : Nat.blt t n = true := by rfl) :
    Ops P r ops Q w0 n D (⟨some t, .buildSlice T m xs.toArray, ty, pos, af, g⟩ :: rest) L A :=
  Ops.val (v := fun b => .slice (some ⟨b, 0, none⟩) m m) (A' := fun b => row (some ⟨b, 0, none⟩) m E sz m cs :: A) hg rfl ht rfl (fun a w hk hs => by
    have e : (xs.toArray.map fun (i, x) => (i, a.eval x)) = vs.toArray := by
      rw [List.map_toArray, show xs.map (fun (i, x) => (i, a.eval x)) = vs from evp_ok hk hx]
    obtain ⟨i, z, hi, hz, hsz, hby, hzs, hzl⟩ := zsb_u hE
    refine ⟨w.heap.size, _, ?_, hs.newRow E sz m cs hl (by simp only [maxLen]; omega)⟩
    have hfill := fill_eq (fun i => some (i * sz, sz)) vs (rep m zs) cs hf
    have hsize : ∀ w, (sizeOf E).run P w = .ok sz w := fun w => run_sizeOf (by simp [szT, hi, hsz])
    have hzv : ∀ w, (zeroValue E).run P w = .ok z w := fun w => by simp [zeroValue, typeInfo, hi, hz]
    have hrun : (Instr.buildSlice T m vs.toArray).run P w = .ok (.slice (some ⟨w.heap.size, 0, none⟩) m m) (w.alloc (.cells cs.toArray E)) := by
      simp only [Instr.buildSlice, Sem.run_bind, run_underlying (elT_u hT), Result.andThen_ok, hsize]
      rw [if_neg (by omega)]
      by_cases h0 : m * sz = 0
      · have hr0 : rep m zs = [] := List.eq_nil_of_length_eq_zero (by rw [rep_length, ← hzl, Array.length_toList, hzs, h0])
        rw [hr0] at hfill
        rw [if_pos h0, h0]
        simp only [Sem.run_bind, Sem.run_pure, Result.andThen_ok]
        have e3 : (Array.range 0).map (fun x => (#[] : Array Value)[x % (#[] : Array Value).size]!) = ([] : List Value).toArray := by simp
        rw [e3, hfill]
        simp [newRow, newObj, Sem.run]
      · rw [if_neg h0]
        have hrep : ((Array.range (m * sz)).map (fun i => z.cells[i % z.cells.size]!)) = (rep m zs).toArray := by
          apply Array.toList_inj.1
          rw [← hzl, ← hzs, rep_eq]
        simp only [Sem.run_bind, hzv, Sem.run_pure, Result.andThen_ok, hrep, hfill]
        simp [newRow, newObj, Sem.run]
    simp only [execOp, e, Sem.run_bind, hrun, Result.andThen_ok, Sem.run_pure]) h
theorem run_stB {w : World} {s : TypeId} {b o : Nat} {T : TypeId} {cs vs : List Value} {v : Value} (hz : szT P s = some vs.length) (hv : v.cells.toList = vs) (h1 : ∀ u ∈ vs, u.oneCell' = true) (hb : w.heap[b]? = some (.cells cs.toArray T (0, 0))) (hl : o + vs.length ≤ cs.length) :
    (storeVar s ⟨b, o, none⟩ v).run P w = .ok () (w.setRow b (cs.take o ++ vs ++ cs.drop (o + vs.length)).toArray) := by
  have h := run_storeCells_at P b o T vs 0 cs.toArray w hb (by simpa using hl) h1
  simp only [Nat.add_zero] at h
  subst hv
  simp only [storeVar, Sem.run_bind, run_sizeOf hz, Result.andThen_ok]
  rw [if_neg (by simp)]
  exact h
theorem one {vs : List Value} (h : vs.all (fun v => v.oneCell') = true) : ∀ u ∈ vs, u.oneCell' = true := fun u hu => by simpa using List.all_eq_true.1 h u hu
theorem Ops.stB {s : TypeId} {x y : Operand} {b o : Nat} {T : TypeId} {cs : List Value} {v : Value} (vs cs' : List Value) {A' : List Atom} (hz : szT P s = some vs.length) (hx : ev L x = some (.pointer (some ⟨b, o, none⟩))) (hy : ev L y = some v) (hv : v.cells.toList = vs) (h1 : ∀ u ∈ vs, u.oneCell' = true)
    (hu : Upd A (blk b T cs) (blk b T cs') A') (hl : Nat.ble (o + vs.length) cs.length = true) (hc : cs.take o ++ vs ++ cs.drop (o + vs.length) = cs') (h : Ops P r ops Q w0 n D rest L A')
    (hg : gd ops L ⟨none, .store s x y, ty, pos, af, g⟩ = some true := by rfl) :
    Ops P r ops Q w0 n D (⟨none, .store s x y, ty, pos, af, g⟩ :: rest) L A :=
  Ops.act (α := Unit) (A' := fun _ => A') hg rfl rfl (fun a w hk hs => by
    obtain ⟨R, hp, hp'⟩ := hu.pull
    obtain ⟨S, hS, _, hgo⟩ := (hs.pull hp).step
    refine ⟨(), w.setRow b cs'.toArray, ?_, Sat.push ?_ hp'⟩
    · subst hc
      simp only [execOp, hk.ev hx, hk.ev hy, Instr.storeAt, Instr.sureAddr, Sem.run_bind, Sem.run_pure, Result.andThen_ok, run_stB hz hv h1 hS.1 (Nat.le_of_ble_eq_true hl)]
    · exact hgo (S' := fun k => k = b) ⟨setRow_heap w b _ _ T _ hS.1, fun _ => Iff.rfl⟩ (fun k hk => .inl ((hS.2 k).2 hk)) rfl rfl rfl (by simp) (fun k _ hk => setRow_other w b k _ (fun e => hk ((hS.2 k).2 e)))) (fun _ => h)
theorem Ops.stO {s : TypeId} {x y : Operand} {b o cap m sz : Nat} {E : TypeId} {cs : List Value} {v : Value} (vs cs' : List Value) {A' : List Atom} (hz : szT P s = some vs.length) (hx : ev L x = some (.pointer (some ⟨b, o, none⟩))) (hy : ev L y = some v) (hv : v.cells.toList = vs) (h1 : ∀ u ∈ vs, u.oneCell' = true)
    (hu : Upd A (row (some ⟨b, 0, none⟩) cap E sz m cs) (row (some ⟨b, 0, none⟩) cap E sz m cs') A') (hl : o + vs.length ≤ cs.length) (hc : cs.take o ++ vs ++ cs.drop (o + vs.length) = cs') (h : Ops P r ops Q w0 n D rest L A')
    (hg : gd ops L ⟨none, .store s x y, ty, pos, af, g⟩ = some true := by rfl) :
    Ops P r ops Q w0 n D (⟨none, .store s x y, ty, pos, af, g⟩ :: rest) L A :=
  Ops.act (α := Unit) (A' := fun _ => A') hg rfl rfl (fun a w hk hs => by
    obtain ⟨R, hp, hp'⟩ := hu.pull
    obtain ⟨S, hS, _, hgo⟩ := (hs.pull hp).step
    obtain ⟨⟨hlen, hown⟩, hSb⟩ := hS
    rcases hown with ⟨h0, _⟩ | ⟨b', cap', cur, hv0, _, hh, h2, h3, h4, h5⟩
    · cases h0
    · cases hv0
      have hcl : cs.length ≤ cur.size := by rw [← h5, List.length_take]; simp; omega
      have e : cur = (cs ++ cur.toList.drop (m * sz)).toArray := by
        apply Array.toList_inj.1
        simp only [← h5, List.take_append_drop]
      have hh' : w.heap[b]? = some (.cells (cs ++ cur.toList.drop (m * sz)).toArray E (0, 0)) := by rw [← e]; exact hh
      refine ⟨(), w.setRow b (cs' ++ cur.toList.drop (m * sz)).toArray, ?_, Sat.push ?_ hp'⟩
      · have hr := run_stB (P := P) hz hv h1 hh' (o := o) (by simp; omega)
        have e2 : (cs ++ cur.toList.drop (m * sz)).take o ++ vs ++ (cs ++ cur.toList.drop (m * sz)).drop (o + vs.length) = cs' ++ cur.toList.drop (m * sz) := by
          rw [← hc, List.take_append_of_le_length (by omega), List.drop_append_of_le_length (by omega)]
          simp
        rw [e2] at hr
        simp only [execOp, hk.ev hx, hk.ev hy, Instr.storeAt, Instr.sureAddr, Sem.run_bind, Sem.run_pure, Result.andThen_ok, hr]
      · have hcl' : cs'.length = cs.length := by rw [← hc]; simp; omega
        refine hgo (S' := fun k => k = b) ⟨⟨by rw [hcl', hlen], .inr ⟨b, cap, _, rfl, Nat.zero_le _, setRow_heap w b _ _ E _ hh, h2, h3, ?_, ?_⟩⟩, fun k => by simp [Value.ownBlock, eq_comm]⟩ (fun k hk => .inl ((hSb k).2 (by simp [Value.ownBlock, hk])))
          rfl rfl rfl (by simp) (fun k _ hk => setRow_other w b k _ (fun e => hk ((hSb k).2 (by simp [Value.ownBlock, e]))))
        · simp only [List.size_toArray, List.length_append, List.length_drop, Array.length_toList, hcl', hlen]
          rw [hlen] at hcl
          omega
        · simp only [List.toList_toArray]
          rw [← hlen, ← hcl']
          exact List.take_left) (fun _ => h)
theorem Sat.nilRow {w : World} {A : List Atom} (h : Sat w0 w A) (E : TypeId) (sz : Nat) : Sat w0 w (row none 0 E sz 0 [] :: A) :=
  h.add (Below.refl _ _) (S := fun _ => False) ⟨World.ownsRow_nil w 0 E sz, fun k => by simp [Value.ownBlock]⟩ (fun _ hk => hk.elim)
theorem Ops.nilRow (E : TypeId) (sz : Nat) (h : Ops P r ops Q w0 n D rest L (row none 0 E sz 0 [] :: A)) : Ops P r ops Q w0 n D rest L A := h.sat (fun _ hs => hs.nilRow E sz)
theorem Cd.nilRow {c : Code} (E : TypeId) (sz : Nat) (h : Cd P r c Q w0 n D L (row none 0 E sz 0 [] :: A)) : Cd P r c Q w0 n D L A := h.sat (fun _ hs => hs.nilRow E sz)
theorem Ops.app {x y : Operand} {T E : TypeId} {zs cs news : List Value} {sz by_ cap m k xc : Nat} {a xa : Option Addr} {A1 : List Atom} {A' : Option Addr → Nat → List Atom} (hT : elT P T = some E) (hE : zsb P E = some (zs, sz, by_)) (hs0 : 0 < sz)
    (hx : ev L x = some (.slice a m cap)) (hy : ev L y = some (.slice xa k xc)) (hn : ∀ w, Sat w0 w A → Ro w xa news) (hd : ∀ w, Sat w0 w A → Sat w0 w A1) (hu : ∀ a' c', Upd A1 (row a cap E sz m cs) (row a' c' E sz (m + k) (cs ++ news)) (A' a' c')) (hl : news.length = k * sz) (h1 : ∀ u ∈ news, u.oneCell' = true)
    (hb : (m + k) * by_ ≤ 140737488355328) (hb' : m + k ≤ 140737488355328)
    (h : ∀ a' cap', Ops P r ops Q w0 n D rest ((t, .slice a' (m + k) cap') :: L) (A' a' cap'))
    (hg : gd ops L ⟨some t, .call ⟨.builtin .append, #[x, y], #[T, T]⟩, ty, pos, af, g⟩ = some true := by rfl) (ht : Nat.blt t n = true := by rfl) :
    Ops P r ops Q w0 n D (⟨some t, .call ⟨.builtin .append, #[x, y], #[T, T]⟩, ty, pos, af, g⟩ :: rest) L A :=
  Ops.val (α := Option Addr × Nat) (v := fun p => .slice p.1 (m + k) p.2) (A' := fun p => A' p.1 p.2) hg rfl ht rfl (fun ac w hk hs => by
    obtain ⟨i, z, hi, hz, hsz, hby, hzs, hzl⟩ := zsb_u hE
    have hr0 := hn w hs
    have hs := hd w hs
    obtain ⟨R, hp, _⟩ := (hu a cap).pull
    obtain ⟨S, hS, _, hgo⟩ := (hs.pull hp).step
    have hown := hS.1
    rcases Nat.eq_zero_or_pos k with hk0 | hk0
    · subst hk0
      have hnn : news = [] := List.eq_nil_of_length_eq_zero (by simpa using hl)
      subst hnn
      refine ⟨(a, cap), w, ?_, ?_⟩
      · have hsize : ∀ w, (sizeOf E).run P w = .ok sz w := fun w => run_sizeOf (by simp [szT, hi, hsz])
        have hle : m ≤ cap := by
          rcases hown.2 with ⟨h0, h00⟩ | ⟨b', cap', cur, hv0, _, hh, h2, _⟩
          · omega
          · cases hv0; exact h2
        have hf : ∀ w, (Builtin.firstCells sz 0 (.slice xa 0 xc)).run P w = .ok #[] w := by
          intro w
          cases xa with
          | none => simp [Builtin.firstCells]
          | some p => simp [Builtin.firstCells, loadCells, loadCellsFrom]
        simp only [execOp, resolve, invoke, builtin, hk.ev hx, hk.ev hy, List.map_toArray, List.map_cons, List.map_nil, Sem.run_bind, Sem.run_pure, Result.andThen_ok]
        cases a with
        | none => simp [Builtin.append_, run_underlying (elT_u hT), hsize, Builtin.lenOf, hle, hf]
        | some p => simp [Builtin.append_, run_underlying (elT_u hT), hsize, Builtin.lenOf, hle, hf, storeCells]
      · obtain ⟨R', hp', hq'⟩ := (hu a cap).pull
        refine Sat.push ?_ hq'
        simp only [Nat.add_zero, List.append_nil]
        exact hs.pull hp'
    · obtain ⟨b, o, rfl⟩ := hr0.pos (by rw [hl]; exact Nat.mul_pos hk0 hs0)
      obtain ⟨v', w', hrun, hown', hgr, _, hat⟩ := run_append_own_at (P := P) w 0 T ty E i z sz by_ (elT_u hT) hi hz hsz hby hzs hs0 (.slice a m cap) m cs hown ⟨b, o, none⟩ k xc news hl
        (fun j u hu => by rw [add_at]; exact hr0.at hu) h1 (by simp only [maxLen]; omega) hb (Nat.zero_le _)
      obtain ⟨a', cap', rfl⟩ : ∃ a' cap', v' = .slice a' (m + k) cap' := by
        rcases hown'.2 with ⟨h0, h00⟩ | ⟨b', cap', cur, hv0, _⟩
        · omega
        · exact ⟨_, _, hv0⟩
      obtain ⟨R', hp', hq'⟩ := (hu a' cap').pull
      obtain ⟨S, hS, _, hgo⟩ := (hs.pull hp').step
      refine ⟨(a', cap'), w', ?_, Sat.push ?_ hq'⟩
      · simp only [execOp, resolve, invoke, builtin, hk.ev hx, hk.ev hy, List.map_toArray, List.map_cons, List.map_nil, Sem.run_bind, Sem.run_pure, Result.andThen_ok, hrun]
      · refine hgo (S' := fun q => (Value.slice a' (m + k) cap').ownBlock = some q) ⟨hown', fun _ => Iff.rfl⟩ (fun q hq => ?_) hgr.os hgr.tape hgr.output hgr.size (fun q hlt hq => hgr.block q hlt (fun e => hq ((hS.2 q).2 e.symm)))
        rcases hat with hat | hat
        · exact .inl ((hS.2 q).2 (hat ▸ hq))
        · rw [hat] at hq; cases hq; exact .inr (Nat.le_refl _)) (fun p => h p.1 p.2)
end
end Go.Proofs.YtilcdghliigngaaGreatDoorGl
namespace Go.Proofs.YtilcdghliigngaaGreatDoorGl
set_option linter.unusedVariables false
set_option linter.unusedSimpArgs false
open Go.RowKit
theorem Sats.append {w : World} {A : List Atom} {T : Nat → Prop} (h : Sats w A T) : ∀ {B : List Atom} {U : Nat → Prop}, Sats w B U → (∀ k, U k → ¬ T k) → Sats w (B ++ A) (fun k => U k ∨ T k)
  | [], U, hB, _ => Sats.iff h (fun k => ⟨.inr, fun h => h.elim (fun h => (hB k h).elim) id⟩)
  | b :: B, U, hB, hd => by
    obtain ⟨S, V, hb, hB', hd', ht⟩ := hB
    have ih := Sats.append h hB' (fun k hk => hd k ((ht k).2 (.inr hk)))
    refine ⟨S, _, hb, ih, ?_, ?_⟩
    · rintro k hk (hv | hv)
      · exact hd' k hk hv
      · exact hd k ((ht k).2 (.inl hk)) hv
    · intro k
      show U k ∨ T k ↔ S k ∨ V k ∨ T k
      rw [ht k]; exact or_assoc
theorem Sat.over {w0 w w' : World} {A B : List Atom} (h : Sat w0 w A) (hb : Sat w w' B) : Sat w0 w' (B ++ A) := by
  obtain ⟨hB, T, hs, ht⟩ := h
  obtain ⟨hB', U, hs', ht'⟩ := hb
  refine ⟨hB.trans (hB'.mono hB.size), _, (hs.loc (fun k hk => hB'.block k (hs.lt k hk))).append hs' (fun k hk hT => ?_), ?_⟩
  · have := ht' k hk; have := hs.lt k hT; omega
  · rintro k (hk | hk)
    · have := ht' k hk; have := hB.size; omega
    · exact ht k hk
theorem Sat.none {w0 w : World} {A : List Atom} (h : Sat w0 w A) : Sat w0 w [] := ⟨h.below, fun _ => False, fun _ h => h, fun _ h => h.elim⟩
theorem Sat.only {w0 w : World} {a : Atom} {A R : List Atom} (h : Sat w0 w A) (hp : Pull A a R) : Sat w0 w [a] := by
  obtain ⟨hB, T, ⟨S, U, ha, hA, hd, ht⟩, hT⟩ := h.pull hp
  exact ⟨hB, S, ⟨S, fun _ => False, ha, fun _ h => h, fun _ _ h => h, fun k => by simp⟩, fun k hk => hT k ((ht k).2 (.inl hk))⟩
abbrev Enters (P : Program) (f : FuncId) : Prop := ∀ args w, (callFunc f args).run P w = .ok (.enter f args) w
section
variable {P : Program} {r : Option Nat} {ops : Array Oper} {Q : Exit → Act → World → Prop} {w0 : World} {n : Nat} {D : List Deferred} {rest : List Oper} {L : Env} {A : List Atom}
variable {t : Nat} {ty : TypeId} {pos : String} {af : Array Edge} {g : Option (Nat × Bool)}
theorem run_callV {ρ : Operand → Value} {f : Operand} {xs : List Operand} {ats : Array TypeId} {k : FuncId} {first caps : Array Value} {vs : List Value} {w : World} (he : Enters P k) (hf : ρ f = .func (.func k) first caps) (hx : xs.map ρ = vs)
    {dst : Option Tmp} : (execOp ρ ⟨dst, .call ⟨.value f, xs.toArray, ats⟩, ty, pos, af, g⟩).run P w = .ok (.enter k (first ++ vs.toArray ++ caps)) w := by
  have e : xs.toArray.map ρ = vs.toArray := by rw [List.map_toArray, hx]
  simp only [execOp, resolve, e, hf, Deferred.ofValue, Sem.run_bind, Sem.run_pure, Result.andThen_ok, invoke, he]
theorem Ops.cl {α : Type} {k : FuncId} {xs : List Operand} {ats : Array TypeId} {vs : List Value} {v : α → Value} {B : α → List Atom} (he : Enters P k) (hx : evs L xs = some vs)
    (hc : ∀ w, Sat w0 w A → Calls P k vs.toArray w fun e w' => ∃ x, e = .returned (v x) ∧ Sat w w' (B x))
    (h : ∀ x, Ops P r ops Q w0 n D rest ((t, v x) :: L) (B x ++ A))
    (hg : gd ops L ⟨some t, .call ⟨.value (.func k), xs.toArray, ats⟩, ty, pos, af, g⟩ = some true := by rfl) (ht : Nat.blt t n = true := by rfl) :
    Ops P r ops Q w0 n D (⟨some t, .call ⟨.value (.func k), xs.toArray, ats⟩, ty, pos, af, g⟩ :: rest) L A :=
  Ops.call (v := v) (A' := fun x => B x ++ A) hg rfl ht rfl (fun a w hk _ => by
    have := run_callV (P := P) (ρ := a.eval) (f := .func k) (xs := xs) (ats := ats) (first := #[]) (caps := #[]) (w := w) (ty := ty) (pos := pos) (af := af) (g := g) (dst := some t) he rfl (evs_ok hk hx)
    simpa using this) (fun w hs => (hc w hs).mono fun e w' ⟨x, he, hs'⟩ => ⟨x, he, hs.over hs'⟩) h
theorem Ops.cp {k : FuncId} {xs : List Operand} {ats : Array TypeId} {vs : List Value} {v : Value} (he : Enters P k) (hx : evs L xs = some vs)
    (hc : ∀ w, Sat w0 w A → Calls P k vs.toArray w fun e w' => e = .returned v ∧ Sat w w' [])
    (h : Ops P r ops Q w0 n D rest ((t, v) :: L) A)
    (hg : gd ops L ⟨some t, .call ⟨.value (.func k), xs.toArray, ats⟩, ty, pos, af, g⟩ = some true := by rfl) (ht : Nat.blt t n = true := by rfl) :
    Ops P r ops Q w0 n D (⟨some t, .call ⟨.value (.func k), xs.toArray, ats⟩, ty, pos, af, g⟩ :: rest) L A :=
  Ops.cl (α := Unit) (v := fun _ => v) (B := fun _ => []) he hx (fun w hs => (hc w hs).mono fun e w' ⟨h1, h2⟩ => ⟨(), h1, h2⟩) (fun _ => h) hg ht
theorem Ops.cm {α : Type} {k : FuncId} {xs : List Operand} {ats : Array TypeId} {vs : List Value} {v : α → Value} {A' : α → List Atom} (he : Enters P k) (hx : evs L xs = some vs)
    (hc : ∀ w, Sat w0 w A → Calls P k vs.toArray w fun e w' => ∃ x, e = .returned (v x) ∧ Sat w0 w' (A' x))
    (h : ∀ x, Ops P r ops Q w0 n D rest ((t, v x) :: L) (A' x))
    (hg : gd ops L ⟨some t, .call ⟨.value (.func k), xs.toArray, ats⟩, ty, pos, af, g⟩ = some true := by rfl) (ht : Nat.blt t n = true := by rfl) :
    Ops P r ops Q w0 n D (⟨some t, .call ⟨.value (.func k), xs.toArray, ats⟩, ty, pos, af, g⟩ :: rest) L A :=
  Ops.call (v := v) (A' := A') hg rfl ht rfl (fun a w hk _ => by
    have := run_callV (P := P) (ρ := a.eval) (f := .func k) (xs := xs) (ats := ats) (first := #[]) (caps := #[]) (w := w) (ty := ty) (pos := pos) (af := af) (g := g) (dst := some t) he rfl (evs_ok hk hx)
    simpa using this) hc h
theorem Ops.cv {α : Type} {f : Operand} {k : FuncId} {first caps : List Value} {xs : List Operand} {ats : Array TypeId} {vs : List Value} {v : α → Value} {A' : α → List Atom} (he : Enters P k) (hf : ev L f = some (.func (.func k) first.toArray caps.toArray)) (hx : evs L xs = some vs)
    (hc : ∀ w, Sat w0 w A → Calls P k (first ++ vs ++ caps).toArray w fun e w' => ∃ x, e = .returned (v x) ∧ Sat w0 w' (A' x))
    (h : ∀ x, Ops P r ops Q w0 n D rest ((t, v x) :: L) (A' x))
    (hg : gd ops L ⟨some t, .call ⟨.value f, xs.toArray, ats⟩, ty, pos, af, g⟩ = some true := by rfl) (ht : Nat.blt t n = true := by rfl) :
    Ops P r ops Q w0 n D (⟨some t, .call ⟨.value f, xs.toArray, ats⟩, ty, pos, af, g⟩ :: rest) L A :=
  Ops.call (v := v) (A' := A') hg rfl ht rfl (fun a w hk _ => by
    have := run_callV (P := P) (ρ := a.eval) (f := f) (xs := xs) (ats := ats) (w := w) (ty := ty) (pos := pos) (af := af) (g := g) (dst := some t) he (hk.ev hf) (evs_ok hk hx)
    simpa using this) hc h
def Lof : Nat → List Value → Env
  | _, [] => []
  | k, v :: vs => (k, v) :: Lof (k + 1) vs
theorem lk_Lof : ∀ (vs : List Value) (k t : Nat) (v : Value), lk (Lof k vs) t = some v → k ≤ t ∧ vs[t - k]? = some v
  | [], k, t, v, h => by simp [Lof, lk] at h
  | u :: us, k, t, v, h => by
    simp only [Lof, lk_cons] at h
    by_cases e : k = t
    · rw [if_pos e] at h; subst e; simpa using h
    · rw [if_neg e] at h
      obtain ⟨h1, h2⟩ := lk_Lof us (k + 1) t v h
      refine ⟨by omega, ?_⟩
      rw [show t - k = (t - (k + 1)) + 1 by omega]
      simpa using h2
theorem fstart {f : FuncId} {fn : Func} {c : Code} {vs : List Value} {w : World} {R : Ending → World → Prop} (hf : P.funcs[f]? = some fn) (hb : fn.body = some c) (hn : fn.ntmps = n) (hs : Sat w0 w A)
    (h : Cd P none c (bodyPost P fn R) w0 n [] (Lof 0 vs) A) (hle : Nat.ble vs.length n = true := by rfl) : Calls P f vs.toArray w R := by
  have hle' : vs.length ≤ n := Nat.le_of_ble_eq_true hle
  refine callsIn_wide.1 (callsIn_of_wp (n := 0) hf hb trivial (h _ w ⟨?_, rfl, ?_⟩ hs) rfl)
  · subst hn; simp; omega
  · intro t v hl
    obtain ⟨_, h2⟩ := lk_Lof vs 0 t v hl
    have hlt : t < vs.length := (List.getElem?_eq_some_iff.1 (by simpa using h2)).1
    rw [Array.getElem?_append_left (by simpa using hlt)]
    simpa using h2
theorem fstartM {f : FuncId} {fn : Func} {c : Code} {vs : List Value} {w : World} {R : Ending → World → Prop} (hf : P.funcs[f]? = some fn) (hb : fn.body = some c) (hn : fn.ntmps = n) (hs : Sat w0 w A)
    (h : Cd P none c (bodyPostM (Fw none) 0 P fn R) w0 n [] (Lof 0 vs) A) (hle : Nat.ble vs.length n = true := by rfl) : Calls P f vs.toArray w R := by
  have hle' : vs.length ≤ n := Nat.le_of_ble_eq_true hle
  refine callsIn_wide.1 (callsIn_of_wp_marks (F := Fw none) (n := 0) hf hb trivial (h _ w ⟨?_, rfl, ?_⟩ hs) rfl)
  · subst hn; simp; omega
  · intro t v hl
    obtain ⟨_, h2⟩ := lk_Lof vs 0 t v hl
    have hlt : t < vs.length := (List.getElem?_eq_some_iff.1 (by simpa using h2)).1
    rw [Array.getElem?_append_left (by simpa using hlt)]
    simpa using h2
def Res (P : Program) (w0 : World) (L : Env) (A : List Atom) : ResultVar → Value → Prop
  | .tmp t, v => lk L t = some v
  | .cell a T, v => ∃ b o, lk L a = some (.pointer (some ⟨b, o, none⟩)) ∧ ∀ w, Sat w0 w A → (loadVar T ⟨b, o, none⟩).run P w = .ok v w
def Ress (P : Program) (w0 : World) (L : Env) (A : List Atom) : List ResultVar → List Value → Prop
  | [], [] => True
  | x :: xs, v :: vs => Res P w0 L A x v ∧ Ress P w0 L A xs vs
  | _, _ => False
def resF (tmps : Array Value) : ResultVar → Sem Value
  | .tmp t => pure (tmps.getD t undef)
  | .cell a t => do loadVar t (← asAddr (tmps.getD a undef))
def joinV : List Value → Value
  | [v] => v
  | vs => .tuple vs.toArray
theorem results_eq (fn : Func) (tmps : Array Value) : results fn tmps = (do let vs ← fn.results.mapM (resF tmps); pure (if h : vs.size = 1 then vs[0] else .tuple vs)) := by
  have : (fun (x : ResultVar) => (match x with | .tmp t => pure (tmps.getD t undef) | .cell a t => do loadVar t (← asAddr (tmps.getD a undef)) : Sem Value)) = resF tmps := by
    funext x; cases x <;> rfl
  rw [← this]
  rfl
theorem Res.run {a : Act} {w : World} (hk : Kn n D L a) (hs : Sat w0 w A) {x : ResultVar} {v : Value} (h : Res P w0 L A x v) : (resF a.tmps x).run P w = .ok v w := by
  cases x with
  | tmp t => have := hk.look t v h; simp [resF, Array.getD_eq_getD_getElem?, this]
  | cell c T =>
    obtain ⟨b, o, hl, hr⟩ := h
    have := hk.look c _ hl
    simp [resF, Array.getD_eq_getD_getElem?, this, asAddr, hr w hs]
theorem Ress.run {a : Act} {w : World} (hk : Kn n D L a) (hs : Sat w0 w A) : ∀ {xs : List ResultVar} {vs : List Value}, Ress P w0 L A xs vs → (xs.mapM (resF a.tmps)).run P w = .ok vs w
  | [], [], _ => by simp
  | x :: xs, v :: vs, h => by
    rw [List.mapM_cons]
    simp only [Sem.run_bind, Res.run hk hs h.1, Result.andThen_ok, Ress.run hk hs h.2, Sem.run_pure]
  | [], _ :: _, h => h.elim
  | _ :: _, [], h => h.elim
theorem run_results {fn : Func} {a : Act} {w : World} {xs : List ResultVar} {vs : List Value} (hk : Kn n D L a) (hs : Sat w0 w A) (hr : fn.results = xs.toArray) (h : Ress P w0 L A xs vs) :
    (results fn a.tmps).run P w = .ok (joinV vs) w := by
  have h1 := h.run hk hs
  have h2 : (fn.results.mapM (resF a.tmps)).run P w = .ok vs.toArray w := by
    rw [hr, Array.mapM_eq_mapM_toList, map_eq_pure_bind]
    simp only [Sem.run_bind, h1, Result.andThen_ok, Sem.run_pure]
  rw [results_eq]
  simp only [Sem.run_bind, h2, Result.andThen_ok, Sem.run_pure]
  match vs with
  | [] => rfl
  | [v] => rfl
  | _ :: _ :: _ => simp [joinV]
theorem endd {fn : Func} {R : Ending → World → Prop} {e : Exit} {xs : List ResultVar} {vs : List Value} {v : Value} (he : e = .ret ∨ e = .normal) (hr : fn.results = xs.toArray) (hv : Ress P w0 L A xs vs) (hm : joinV vs = v)
    (h : ∀ w, Sat w0 w A → R (.returned v) w) (a : Act) (w : World) (hk : Kn n [] L a) (hs : Sat w0 w A) : bodyPost P fn R e a w := by
  subst hm
  have := run_results (P := P) hk hs hr hv
  rcases he with rfl | rfl
  · exact ⟨hk.defers, _, this, h w hs⟩
  · exact ⟨hk.defers, _, this, h w hs⟩
theorem Cd.rt {fn : Func} {R : Ending → World → Prop} {xs : List ResultVar} (vs : List Value) (hq : Q .ret = bodyPost P fn R .ret) (hr : fn.results = xs.toArray) (hv : Ress P w0 L A xs vs)
    (h : ∀ w, Sat w0 w A → R (.returned (joinV vs)) w) : Cd P r .ret Q w0 n [] L A :=
  Cd.ret (fun a w hk hs => by rw [hq]; exact endd (.inl rfl) hr hv rfl h a w hk hs)
theorem Ops.fin {fn : Func} {R : Ending → World → Prop} (hq : Q .normal = bodyPost P fn R .normal) (hr : fn.results = #[])
    (h : ∀ w, Sat w0 w A → R (.returned (.tuple #[])) w) : Ops P r ops Q w0 n [] [] L A :=
  Ops.nil (fun a w hk hs => by rw [hq]; exact endd (xs := []) (vs := []) (.inr rfl) hr trivial rfl h a w hk hs)
theorem Cd.fin {fn : Func} {R : Ending → World → Prop} (hq : Q .normal = bodyPost P fn R .normal) (hr : fn.results = #[])
    (h : ∀ w, Sat w0 w A → R (.returned (.tuple #[])) w) : ∀ a w, Kn n [] L a → Sat w0 w A → Q .normal a w :=
  fun a w hk hs => by rw [hq]; exact endd (xs := []) (vs := []) (.inr rfl) hr trivial rfl h a w hk hs
end
end Go.Proofs.YtilcdghliigngaaGreatDoorGl
namespace Go.Proofs.YtilcdghliigngaaGreatDoorGl
set_option linter.unusedVariables false
set_option linter.unusedSimpArgs false
open Go.RowKit
def NQ (K : Act → World → Prop) : Exit → Act → World → Prop
  | .normal, a, w => K a w
  | _, _, _ => False
section
variable {P : Program} {r : Option Nat} {ops : Array Oper}
theorem oper_anyQ {F : Fence} {n : Nat} {o : Oper} {a : Act} {w : World} {K K' : Act → World → Prop} {Q' : Exit → Act → World → Prop} (hK : ∀ a w, K a w → K' a w) (h : o.wpIn F n P a w K (fun _ _ _ => False)) : o.wpIn F n P a w K' Q' := by
  unfold Oper.wpIn at *
  refine ⟨h.1, ?_⟩
  have hh := h.2
  generalize (o.semAt F.round a.eval).run P w = x at *
  cases x with
  | ok y w' =>
    cases y <;> simp only [Oper.uponIn] at hh ⊢
    case value v => exact hK _ _ hh
    case skip => exact hK _ _ hh
    case defer d => exact hK _ _ hh
    case enter f args => exact ⟨hh.1, CallsIn.mono hh.2 (fun e w'' he => by cases e <;> first | exact hK _ _ he | exact he.elim | exact he.elim (fun _ h => h.elim (fun _ h => h.elim)))⟩
    case row rw args => exact ⟨hh.1, RowsIn.mono hh.2 (fun _ _ he => hK _ _ he)⟩
    case round l f tmps asg bd => exact ⟨hh.1, RoundIn.mono hh.2 (fun e w'' he => by cases e <;> first | exact hK _ _ he | exact he.elim | exact he.elim (fun _ h => h.elim (fun _ h => h.elim)))⟩
  | halt y w' => cases y <;> simp only [Oper.uponIn] at hh ⊢
def opK (P : Program) (r : Option Nat) (ops : Array Oper) (i : Nat) (K : Act → World → Prop) (a : Act) (w : World) : Prop := wpOpIn (Fw r) 0 P ops (fun _ _ _ => False) i K a w
theorem opK_mono {i : Nat} {a : Act} {w : World} {K K' : Act → World → Prop} (h : ∀ a w, K a w → K' a w) (hh : opK P r ops i K a w) : opK P r ops i K' a w := wpOpIn_mono h hh
theorem opK_anyQ {i : Nat} {a : Act} {w : World} {K K' : Act → World → Prop} {Q' : Exit → Act → World → Prop} (h : ∀ a w, K a w → K' a w) (hh : opK P r ops i K a w) : wpOpIn (Fw r) 0 P ops Q' i K' a w := by
  unfold opK wpOpIn at *
  split
  · rename_i ho; simp only [ho] at hh; exact h _ _ hh
  · rename_i o ho
    simp only [ho] at hh
    split
    · rename_i hw; simp only [hw, if_true] at hh; exact oper_anyQ h hh
    · rename_i hw; simp only [hw] at hh; exact ⟨hh.1, h _ _ hh.2⟩
def YS (P : Program) (ops : Array Oper) (St : World → Prop) (o : Oper) (v : Value) (a : Act) : Prop :=
  (Region.wanted o (yielded ops a.tmps) = true ∧ ∀ w, St w → (execOp a.eval o).run P w = .ok (.value v) w) ∨ (Region.wanted o (yielded ops a.tmps) = false ∧ v = undef)
theorem YS.of_same {St : World → Prop} {o : Oper} {v : Value} {a a' : Act} (hy : YS P ops St o v a) (he : execOp a'.eval o = execOp a.eval o) (hw : Region.wanted o (yielded ops a'.tmps) = Region.wanted o (yielded ops a.tmps)) : YS P ops St o v a' := by
  unfold YS at *; rw [he, hw]; exact hy
theorem YS.opK {St : World → Prop} {i : Nat} {o : Oper} {v : Value} {a : Act} {w : World} {K : Act → World → Prop} (hi : ops[i]? = some o) (hnd : noDefer o.op = true) (hy : YS P ops St o v a) (hs : St w) (h : K (a.put o.dst v) w) : opK P r ops i K a w := by
  unfold YtilcdghliigngaaGreatDoorGl.opK wpOpIn
  simp only [hi]
  rcases hy with ⟨hw, hv⟩ | ⟨hw, rfl⟩
  · simp only [hw, if_true, Oper.wpIn]
    refine ⟨fun _ _ => trivial, ?_⟩
    rw [semAt_noDefer _ _ hnd, hv w hs]
    exact h
  · simp only [hw]
    exact ⟨fun _ _ => trivial, h⟩
theorem opK_put {St : World → Prop} {j : Nat} {oi oj : Oper} {v : Value} (hj : ops[j]? = some oj) (hap : oi.apart ops oj = true) (hndj : noDefer oj.op = true)
    (hsi : ∀ cs b, oi.op ≠ .select cs b) (hsj : ∀ cs b, oj.op ≠ .select cs b) {K : Act → World → Prop} {a : Act} {w : World}
    (hy : YS P ops St oi v a) (h : opK P r ops j K (a.put oi.dst v) w) : opK P r ops j (fun a' w' => YS P ops St oi v a' ∧ K (a'.put oi.dst v) w') a w := by
  obtain ⟨h1, h2, h3⟩ := Oper.apart_spec hap
  have keep : ∀ (a : Act), YS P ops St oi v a → ∀ u, YS P ops St oi v (a.put oj.dst u) := fun a hy u =>
    hy.of_same (execOp_put oi hsi a oj.dst u h3) (wanted_put oi a oj.dst u h3)
  have keepD : ∀ d, YS P ops St oi v { a with defers := d :: a.defers } := fun d => hy.of_same rfl rfl
  unfold opK wpOpIn at *
  simp only [hj] at *
  rw [wanted_put oj a oi.dst v h1] at h
  split
  · rename_i hw
    simp only [hw, if_true] at h
    unfold Oper.wpIn at *
    refine ⟨fun _ _ => trivial, ?_⟩
    have h := h.2
    rw [semAt_noDefer _ _ hndj, execOp_put oj hsj a oi.dst v h1] at h
    rw [semAt_noDefer _ _ hndj]
    generalize (execOp a.eval oj).run P w = x at *
    cases x with
    | ok y w' =>
      cases y <;> simp only [Oper.uponIn] at h ⊢
      case value u => exact ⟨keep a hy u, by rw [← Act.put_comm a v u h2]; exact h⟩
      case skip => exact ⟨keep a hy _, by rw [← Act.put_comm a v undef h2]; exact h⟩
      case defer d =>
        refine ⟨keep _ (keepD d) _, ?_⟩
        rw [← Act.put_comm _ v undef h2, ← Act.put_defers]
        exact h
      case enter f args =>
        refine ⟨h.1, CallsIn.mono h.2 fun e w'' he => ?_⟩
        cases e with
        | returned u => exact ⟨keep a hy u, by rw [← Act.put_comm a v u h2]; exact he⟩
        | panicked c => exact he
        | outgrown => exact he
      case row rw args => exact ⟨h.1, RowsIn.mono h.2 fun u w'' he => ⟨keep a hy u, by rw [← Act.put_comm a v u h2]; exact he⟩⟩
      case round l f tmps assign body =>
        refine ⟨h.1, RoundIn.mono h.2 fun e w'' he => ?_⟩
        cases e with
        | returned u => exact ⟨keep a hy u, by rw [← Act.put_comm a v u h2]; exact he⟩
        | panicked c => exact he
        | outgrown => exact he
    | halt y w' => cases y <;> simp only [Oper.uponIn] at h ⊢
  · rename_i hw
    simp only [hw] at h
    exact ⟨fun _ _ => trivial, keep a hy _, by rw [← Act.put_comm a v undef h2]; exact h.2⟩
def tailB (ops : Array Oper) (listed : Array Bool) : Bool :=
  (Region.ready .any ops listed).all fun j => (List.range ops.size).all fun i => !listed.getD i false ||
    match ops[j]? with
    | some o => o.after.any fun e => Region.binds .any e && e.on == i
    | none => false
def wpK (P : Program) (r : Option Nat) (ops : Array Oper) (St : World → Prop) (K : Act → World → Prop) : Nat → Array Bool → Act → World → Prop
  | 0, listed, a, w => Region.ready .any ops listed = [] ∧ K a w
  | f + 1, listed, a, w =>
    ((Region.ready .any ops listed = [] → K a w) ∧ ∀ i ∈ Region.ready .any ops listed, opK P r ops i (fun a' w' => St w' ∧ wpK P r ops St K f (listed.setIfInBounds i true) a' w') a w) ∨
    (tailB ops listed = true ∧ wpAnyIn (Fw r) 0 P .any ops (NQ K) (f + 1) listed a w)
theorem oper_Q {F : Fence} {n : Nat} {i : Nat} {a : Act} {w : World} {K K' : Act → World → Prop} {J : Act → World → Prop} {Q' : Exit → Act → World → Prop} (hK : ∀ a w, K a w → K' a w) (hh : wpOpIn F n P ops (NQ J) i K a w) : wpOpIn F n P ops Q' i K' a w := by
  unfold wpOpIn at *
  split
  · rename_i ho; simp only [ho] at hh; exact hK _ _ hh
  · rename_i o ho
    simp only [ho] at hh
    split
    · rename_i hw
      simp only [hw, if_true] at hh
      unfold Oper.wpIn at *
      refine ⟨hh.1, ?_⟩
      have hh := hh.2
      generalize (o.semAt F.round a.eval).run P w = x at *
      cases x with
      | ok y w' =>
        cases y <;> simp only [Oper.uponIn] at hh ⊢
        case value v => exact hK _ _ hh
        case skip => exact hK _ _ hh
        case defer d => exact hK _ _ hh
        case enter f args => exact ⟨hh.1, CallsIn.mono hh.2 (fun e w'' he => by cases e <;> first | exact hK _ _ he | exact he.elim | exact he.elim (fun _ h => h.elim (fun _ h => h.elim)))⟩
        case row rw args => exact ⟨hh.1, RowsIn.mono hh.2 (fun _ _ he => hK _ _ he)⟩
        case round l f tmps asg bd => exact ⟨hh.1, RoundIn.mono hh.2 (fun e w'' he => by cases e <;> first | exact hK _ _ he | exact he.elim | exact he.elim (fun _ h => h.elim (fun _ h => h.elim)))⟩
      | halt y w' => cases y <;> simp only [Oper.uponIn] at hh ⊢ <;> exact hh.elim
    · rename_i hw; simp only [hw] at hh; exact ⟨hh.1, hK _ _ hh.2⟩
theorem any_Q {K : Act → World → Prop} {Q' : Exit → Act → World → Prop} (hK : ∀ a w, K a w → Q' .normal a w) : ∀ (f : Nat) (listed : Array Bool) (a : Act) (w : World), wpAnyIn (Fw r) 0 P .any ops (NQ K) f listed a w → wpAnyIn (Fw r) 0 P .any ops Q' f listed a w
  | 0, _, _, _, h => ⟨h.1, hK _ _ h.2⟩
  | f + 1, _, _, _, h => ⟨fun h0 => hK _ _ (h.1 h0), fun i hi => oper_Q (fun a w h => any_Q hK f _ a w h) (h.2 i hi)⟩
theorem wpK_any {St : World → Prop} {K : Act → World → Prop} {Q' : Exit → Act → World → Prop} (hK : ∀ a w, K a w → Q' .normal a w) : ∀ (f : Nat) (listed : Array Bool) (a : Act) (w : World), wpK P r ops St K f listed a w → wpAnyIn (Fw r) 0 P .any ops Q' f listed a w
  | 0, _, _, _, h => ⟨h.1, hK _ _ h.2⟩
  | f + 1, _, _, _, h => by
    rcases h with h | h
    · exact ⟨fun h0 => hK _ _ (h.1 h0), fun i hi => opK_anyQ (fun a w h => wpK_any hK f _ a w h.2) (h.2 i hi)⟩
    · exact any_Q hK _ _ _ _ h.2
def plainB (ops : Array Oper) : Bool := ops.all fun o => noDefer o.op
theorem plainB_spec (h : plainB ops = true) (j : Nat) (o : Oper) (ho : ops[j]? = some o) : noDefer o.op = true := by
  unfold plainB at h
  exact Array.all_eq_true'.1 h o (Array.mem_of_getElem? ho)
theorem wpK_first {St : World → Prop} {K : Act → World → Prop} {i : Nat} {oi : Oper} {v : Value} (hi : ops[i]? = some oi) (hsel : Region.noSelect ops = true) (hpl : plainB ops = true) :
    ∀ (f : Nat) (listed : Array Bool) (a : Act) (w : World), St w →
      (∀ j oj, ops[j]? = some oj → j ≠ i → listed.getD j true = false → (∀ e ∈ oj.after, Region.binds .any e = true → e.on ≠ i) → oi.apart ops oj = true) →
      i ∈ Region.ready .any ops listed → YS P ops St oi v a →
      wpK P r ops St K f (listed.setIfInBounds i true) (a.put oi.dst v) w → wpK P r ops St K (f + 1) listed a w := by
  have hs := Region.noSelect_spec hsel
  have hp := plainB_spec hpl
  intro f
  induction f with
  | zero =>
    intro listed a w hS _ hr hy H
    refine .inl ⟨fun h => (by rw [h] at hr; cases hr), fun j hj => ?_⟩
    by_cases hji : j = i
    · subst hji; exact hy.opK hi (hp _ _ hi) hS ⟨hS, H⟩
    · have := ready_mono hj hji
      rw [H.1] at this
      cases this
  | succ f ih =>
    intro listed a w hS hfree hr hy H
    refine .inl ⟨fun h => (by rw [h] at hr; cases hr), fun j hj => ?_⟩
    by_cases hji : j = i
    · subst hji; exact hy.opK hi (hp _ _ hi) hS ⟨hS, H⟩
    · obtain ⟨hjun, oj, hoj, hall⟩ := mem_ready.1 hj
      have hnot : ∀ e ∈ oj.after, Region.binds .any e = true → e.on ≠ i := fun e he hb heq => by
        have h1 := hall e he hb
        have h0 := (mem_ready.1 hr).1
        rw [heq] at h1
        rcases Nat.lt_or_ge i listed.size with h' | h'
        · simp [h'] at h0 h1; rw [h0] at h1; cases h1
        · simp [Array.getElem?_eq_none h'] at h1
      rcases H with H | ⟨hT, _⟩
      · have h1 := H.2 j (ready_mono hj hji)
        have h2 := opK_put hoj (hfree j oj hoj hji hjun hnot) (hp _ _ hoj) (fun cs b => hs i oi cs b hi) (fun cs b => hs j oj cs b hoj) hy h1
        have hfree' : ∀ k ok, ops[k]? = some ok → k ≠ i → (listed.setIfInBounds j true).getD k true = false →
            (∀ e ∈ ok.after, Region.binds .any e = true → e.on ≠ i) → oi.apart ops ok = true := fun k ok hk hki hun hno => by
          refine hfree k ok hk hki ?_ hno
          by_cases hjk : j = k
          · subst hjk; exact hjun
          · rw [getD_set_ne true hjk] at hun; exact hun
        refine opK_mono (fun a' w' h3 => ⟨h3.2.1, ih (listed.setIfInBounds j true) a' w' h3.2.1 hfree' (ready_mono hr (Ne.symm hji)) h3.1 ?_⟩) h2
        rw [Array.setIfInBounds_comm _ _ hji]
        exact h3.2.2
      · exfalso
        have h1 := List.all_eq_true.1 hT j (ready_mono hj hji)
        have hilt : i < ops.size := (Array.getElem?_eq_some_iff.1 hi).1
        have h2 := List.all_eq_true.1 h1 i (List.mem_range.2 hilt)
        have hil : i < listed.size := by
          have h0 := (mem_ready.1 hr).1
          rcases Nat.lt_or_ge i listed.size with h' | h'
          · exact h'
          · simp [Array.getElem?_eq_none h'] at h0
        have h3 : (listed.setIfInBounds i true).getD i false = true := by simp [hil]
        simp only [h3, Bool.not_true, Bool.false_or, hoj] at h2
        obtain ⟨e, he, hb⟩ := Array.any_eq_true'.1 h2
        simp only [Bool.and_eq_true, beq_iff_eq] at hb
        exact hnot e he hb.1 hb.2
end
inductive Spl : List Atom → List Atom → List Atom → Prop
  | nil {A : List Atom} : Spl A [] A
  | cons {A R A2 Ap : List Atom} {a : Atom} : Pull A a R → Spl R Ap A2 → Spl A (a :: Ap) A2
theorem Spl.sats {w : World} {A Ap A2 : List Atom} (h : Spl A Ap A2) : ∀ {T : Nat → Prop}, Sats w A T → ∃ S U, Sats w Ap S ∧ Sats w A2 U ∧ (∀ k, S k → ¬ U k) ∧ (∀ k, T k ↔ S k ∨ U k) := by
  induction h with
  | nil => exact fun {T} h => ⟨fun _ => False, T, fun _ h => h, h, fun _ h => h.elim, fun k => by simp⟩
  | cons hp _ ih =>
    intro T h
    obtain ⟨S, U, ha, hA, hd, ht⟩ := h.pull hp
    obtain ⟨S', U', h1, h2, h3, h4⟩ := ih hA
    refine ⟨fun k => S k ∨ S' k, U', ⟨S, S', ha, h1, fun k hk hs => hd k hk ((h4 k).2 (.inl hs)), fun _ => Iff.rfl⟩, h2, ?_, ?_⟩
    · rintro k (hk | hk) hu
      · exact hd k hk ((h4 k).2 (.inr hu))
      · exact h3 k hk hu
    · intro k; rw [ht k, h4 k]; exact or_assoc.symm
def snap (W : World) (S : Nat → Prop) (hS : ∀ k, S k → k < W.heap.size) : Atom where
  P := fun w T => (∀ k, T k ↔ S k) ∧ (∀ k, S k → w.heap[k]? = W.heap[k]?)
  loc := fun h hs => ⟨h.1, fun k hk => (hs k ((h.1 k).2 hk)).trans (h.2 k hk)⟩
  lt := fun {w T k} h hk => by
    have h1 := h.2 k ((h.1 k).1 hk)
    have h2 := hS k ((h.1 k).1 hk)
    rw [Array.getElem?_eq_getElem h2] at h1
    exact (Array.getElem?_eq_some_iff.1 h1).1
def qB (ops : Array Oper) (listed : Array Bool) (i : Nat) : Bool := (Region.ready .any ops listed).contains i && Region.free .any ops listed i
def eB (ops : Array Oper) (listed : Array Bool) (i : Nat) : Bool := Region.ready .any ops listed == [i]
def seqB (ops : Array Oper) : Nat → Nat → Array Bool → Bool
  | 0, _, listed => (Region.ready .any ops listed).isEmpty
  | f + 1, k, listed => (Region.ready .any ops listed == [k]) && seqB ops f (k + 1) (listed.setIfInBounds k true)
def tlB (ops : Array Oper) (f k : Nat) (listed : Array Bool) : Bool := tailB ops listed && (f == ops.size - k) && seqB ops f k listed
section
variable {P : Program} {r : Option Nat} {ops : Array Oper} {Q : Exit → Act → World → Prop} {w0 : World} {n : Nat} {D : List Deferred} {L : Env} {A : List Atom}
variable {St : World → Prop} {K : Act → World → Prop} {f : Nat} {listed : Array Bool}
def Dr (P : Program) (r : Option Nat) (ops : Array Oper) (St : World → Prop) (K : Act → World → Prop) (w0 : World) (n : Nat) (D : List Deferred) (f : Nat) (listed : Array Bool) (L : Env) (A : List Atom) : Prop :=
  ∀ a w, Kn n D L a → Sat w0 w A → St w → Region.noSelect ops = true → plainB ops = true → wpK P r ops St K f listed a w
theorem Dr.q {i t : Nat} {op : Op} {ty : TypeId} {pos : String} {af : Array Edge} {g : Option (Nat × Bool)} {v : Value} {Ap : List Atom} (hAp : ∀ w, St w → Sat w0 w Ap) (hi : ops[i]? = some ⟨some t, op, ty, pos, af, g⟩) (hB : qB ops listed i = true)
    (hv : Qv P w0 n D L Ap op v) (h : Dr P r ops St K w0 n D f (listed.setIfInBounds i true) ((t, v) :: L) A)
    (hg : gd ops L ⟨some t, op, ty, pos, af, g⟩ = some true := by rfl) (ht : Nat.blt t n = true := by rfl) : Dr P r ops St K w0 n D (f + 1) listed L A := by
  intro a w hk hs hst hsel hpl
  simp only [qB, Bool.and_eq_true, List.contains_iff_mem] at hB
  exact wpK_first hi hsel hpl f listed a w hst (Region.free_spec hi hB.2) hB.1 (.inl ⟨hk.gd hg, fun w' hw' => (hv a w' hk (hAp w' hw') _ ty pos af g).1⟩)
    (h _ w (hk.put (by simpa [Nat.blt_eq] using ht) _) hs hst hsel hpl)
theorem Dr.sk {i t : Nat} {op : Op} {ty : TypeId} {pos : String} {af : Array Edge} {g : Option (Nat × Bool)} (hi : ops[i]? = some ⟨some t, op, ty, pos, af, g⟩) (hB : qB ops listed i = true)
    (h : Dr P r ops St K w0 n D f (listed.setIfInBounds i true) ((t, undef) :: L) A)
    (hg : gd ops L ⟨some t, op, ty, pos, af, g⟩ = some false := by rfl) (ht : Nat.blt t n = true := by rfl) : Dr P r ops St K w0 n D (f + 1) listed L A := by
  intro a w hk hs hst hsel hpl
  simp only [qB, Bool.and_eq_true, List.contains_iff_mem] at hB
  exact wpK_first hi hsel hpl f listed a w hst (Region.free_spec hi hB.2) hB.1 (.inr ⟨hk.gd hg, rfl⟩)
    (h _ w (hk.put (by simpa [Nat.blt_eq] using ht) _) hs hst hsel hpl)
theorem Dr.e {i : Nat} {o : Oper} (hi : ops[i]? = some o) (hB : eB ops listed i = true)
    (h : Ops P r ops (NQ (fun a w => St w ∧ (Region.noSelect ops = true → plainB ops = true → wpK P r ops St K f (listed.setIfInBounds i true) a w))) w0 n D [o] L A) : Dr P r ops St K w0 n D (f + 1) listed L A := by
  intro a w hk hs hst hsel hpl
  simp only [eB, beq_iff_eq] at hB
  refine .inl ⟨fun h => (by rw [hB] at h; cases h), fun j hj => ?_⟩
  rw [hB] at hj
  obtain rfl := List.mem_singleton.1 hj
  have h1 := h a w hk hs
  have h2 : wpOpIn (Fw r) 0 P ops (NQ (fun a w => St w ∧ (Region.noSelect ops = true → plainB ops = true → wpK P r ops St K f (listed.setIfInBounds j true) a w))) j
      (fun a w => St w ∧ (Region.noSelect ops = true → plainB ops = true → wpK P r ops St K f (listed.setIfInBounds j true) a w)) a w := by
    unfold wpListIn at h1
    unfold wpOpIn
    simp only [hi]
    exact h1
  exact oper_Q (fun a w (h : St w ∧ (Region.noSelect ops = true → plainB ops = true → wpK P r ops St K f (listed.setIfInBounds j true) a w)) => ⟨h.1, h.2 hsel hpl⟩) h2
theorem Dr.back (hF : ∀ w, Sat w0 w A → St w) (h : Dr P r ops St K w0 n D f listed L A) : Ops P r ops (NQ (fun a w => St w ∧ (Region.noSelect ops = true → plainB ops = true → wpK P r ops St K f listed a w))) w0 n D [] L A :=
  fun a w hk hs => ⟨hF w hs, h a w hk hs (hF w hs)⟩
theorem seq_any : ∀ (l : List Oper) (k : Nat) (listed : Array Bool) (a : Act) (w : World), (∀ j, l[j]? = ops[k + j]?) → seqB ops l.length k listed = true → wpListIn (Fw r) 0 P ops (NQ K) l a w → wpAnyIn (Fw r) 0 P .any ops (NQ K) l.length listed a w
  | [], _, _, _, _, _, hB, h => ⟨by simpa [seqB] using hB, h⟩
  | o :: l, k, listed, a, w, hl, hB, h => by
    have h0 : ops[k]? = some o := by simpa using (hl 0).symm
    simp only [List.length_cons, seqB, Bool.and_eq_true, beq_iff_eq] at hB
    refine ⟨fun h => (by rw [hB.1] at h; cases h), fun i hi => ?_⟩
    rw [hB.1] at hi
    obtain rfl := List.mem_singleton.1 hi
    have h1 : wpOpIn (Fw r) 0 P ops (NQ K) i (wpListIn (Fw r) 0 P ops (NQ K) l) a w := by
      unfold wpListIn at h
      unfold wpOpIn
      simp only [h0]
      exact h
    exact wpOpIn_mono (fun a' w' h' => seq_any l (i + 1) _ a' w' (fun j => by have := hl (j + 1); simpa [Nat.add_assoc, Nat.add_comm 1 j] using this) hB.2 h') h1
theorem Dr.tail (k : Nat) (hB : tlB ops f k listed = true) (h : Ops P r ops (NQ K) w0 n D (ops.toList.drop k) L A) : Dr P r ops St K w0 n D f listed L A := by
  intro a w hk hs _ _ _
  simp only [tlB, Bool.and_eq_true, beq_iff_eq] at hB
  obtain ⟨⟨h1, h2⟩, h3⟩ := hB
  have hlen : (ops.toList.drop k).length = f := by rw [h2]; simp
  have h4 := seq_any (P := P) (r := r) (K := K) (ops.toList.drop k) k listed a w (fun j => by simp [List.getElem?_drop]) (by rw [hlen]; exact h3) (h a w hk hs)
  rw [hlen] at h4
  cases f with
  | zero => exact h4
  | succ f => exact .inr ⟨h1, h4⟩
theorem Dr.sat {A' : List Atom} (h : Dr P r ops St K w0 n D f listed L A') (hs : ∀ w, Sat w0 w A → Sat w0 w A') : Dr P r ops St K w0 n D f listed L A := fun a w hk hsat => h a w hk (hs w hsat)
theorem Cd.draw {id : Nat} {l : List Oper} {Ap A2 : List Atom} (hm : P.follows .mixedOrders = true) (hB : (Region.noSelect l.toArray && plainB l.toArray) = true) (hsp : Spl A Ap A2)
    (h : ∀ (F : Atom) (St : World → Prop), (∀ w, St w → Sat w0 w Ap) → (∀ {w : World} {A R : List Atom}, Pull A F R → Sat w0 w A → St w) → (∀ {w : World} {A R : List Atom}, Pull A F R → Sat w0 w A → Sat w0 w (Ap ++ R)) →
      Dr P r l.toArray St (fun a w => Q .normal a w) w0 n D l.length (Array.replicate l.length false) L (F :: A2)) : Cd P r (.region id l.toArray true) Q w0 n D L A := by
  intro a w hk hs
  simp only [Bool.and_eq_true] at hB
  obtain ⟨hbl, T, hT, hge⟩ := hs
  obtain ⟨S, U, h1, h2, h3, h4⟩ := hsp.sats hT
  have hlt : ∀ k, S k → k < w.heap.size := fun k hk => h1.lt k hk
  refine wpIn_region_any hm ?_
  let St : World → Prop := fun w' => Below w0.heap.size w0 w' ∧ ∀ k, S k → w'.heap[k]? = w.heap[k]?
  have hAp : ∀ w', St w' → Sat w0 w' Ap := fun w' hw' => ⟨hw'.1, S, h1.loc hw'.2, fun k hk => hge k ((h4 k).2 (.inl hk))⟩
  have hF : ∀ {w' : World} {A R : List Atom}, Pull A (snap w S hlt) R → Sat w0 w' A → St w' := by
    intro w' A R hp hs'
    obtain ⟨T', ⟨S', _, hS', _⟩, _⟩ := (hs'.pull hp).sats
    exact ⟨hs'.below, hS'.2⟩
  have hR : ∀ {w' : World} {A R : List Atom}, Pull A (snap w S hlt) R → Sat w0 w' A → Sat w0 w' (Ap ++ R) := by
    intro w' A R hp hs'
    obtain ⟨hb', T', ⟨S', U', hS', hU', hd', ht'⟩, hge'⟩ := hs'.pull hp
    refine ⟨hb', _, hU'.append (h1.loc hS'.2) (fun k hk => hd' k ((hS'.1 k).2 hk)), ?_⟩
    rintro k (hk | hk)
    · exact hge k ((h4 k).2 (.inl hk))
    · exact hge' k ((ht' k).2 (.inr hk))
  have hs2 : Sat w0 w.drew (snap w S hlt :: A2) := by
    have : Sat w0 w (snap w S hlt :: A2) := ⟨hbl, T, ⟨S, U, ⟨fun _ => Iff.rfl, fun _ _ => rfl⟩, h2, h3, h4⟩, hge⟩
    exact this.drew
  have hd := h (snap w S hlt) St hAp hF hR a w.drew hk hs2 (hF .here hs2) hB.1 hB.2
  have := wpK_any (P := P) (r := r) (ops := l.toArray) (Q' := Q) (fun a w h => h) _ _ _ _ hd
  simpa using this
end
end Go.Proofs.YtilcdghliigngaaGreatDoorGl
namespace Go.Proofs.YtilcdghliigngaaGreatDoorGl
set_option linter.unusedVariables false
set_option linter.unusedSimpArgs false
open Go.RowKit
theorem fm_length {α : Type} {enc : α → List Value} {sz : Nat} (h : ∀ x, (enc x).length = sz) : ∀ (xs : List α), (xs.flatMap enc).length = xs.length * sz
  | [] => by simp
  | x :: xs => by rw [List.flatMap_cons, List.length_append, h, fm_length h xs, List.length_cons, Nat.succ_mul, Nat.add_comm]
theorem fm_get {α : Type} {enc : α → List Value} {sz : Nat} (h : ∀ x, (enc x).length = sz) : ∀ (xs : List α) (k j : Nat) (x : α) (v : Value), xs[k]? = some x → (enc x)[j]? = some v → (xs.flatMap enc)[k * sz + j]? = some v
  | [], k, j, x, v, hx, _ => by simp at hx
  | y :: ys, 0, j, x, v, hx, hv => by
    obtain rfl : y = x := by simpa using hx
    rw [List.flatMap_cons, Nat.zero_mul, Nat.zero_add, List.getElem?_append_left (List.getElem?_eq_some_iff.1 hv).1]
    exact hv
  | y :: ys, k + 1, j, x, v, hx, hv => by
    rw [List.flatMap_cons, List.getElem?_append_right (by rw [h, Nat.succ_mul]; omega), h]
    have := fm_get h ys k j x v (by simpa using hx) hv
    rw [show (k + 1) * sz + j - sz = k * sz + j by rw [Nat.succ_mul]; omega]
    exact this
def RoL {α : Type} (w : World) (a : Option Addr) (enc : α → List Value) (xs : List α) : Prop := Ro w a (xs.flatMap enc)
theorem RoL.later {α : Type} {w w' : World} {a : Option Addr} {enc : α → List Value} {xs : List α} (h : RoL w a enc xs) (hb : Below w.heap.size w w') : RoL w' a enc xs := Ro.later h hb
theorem RoL.at {α : Type} {w : World} {b o sz : Nat} {enc : α → List Value} {xs : List α} (h : RoL w (some ⟨b, o, none⟩) enc xs) (hs : ∀ x, (enc x).length = sz) {k j : Nat} {x : α} {v : Value} (hx : xs[k]? = some x) (hv : (enc x)[j]? = some v) :
    w.cell? ⟨b, o + k * sz + j, none⟩ = some v := by
  have := Ro.at h (fm_get hs xs k j x v hx hv)
  rwa [← Nat.add_assoc] at this
theorem RoL.at0 {α : Type} {w : World} {b o sz : Nat} {enc : α → List Value} {xs : List α} (h : RoL w (some ⟨b, o, none⟩) enc xs) (hs : ∀ x, (enc x).length = sz) {k : Nat} {x : α} {v : Value} (hx : xs[k]? = some x) (hv : (enc x)[0]? = some v) :
    w.cell? ⟨b, o + k * sz, none⟩ = some v := RoL.at h hs hx hv
theorem RoL.pos {α : Type} {w : World} {a : Option Addr} {enc : α → List Value} {xs : List α} {sz : Nat} (h : RoL w a enc xs) (hs : ∀ x, (enc x).length = sz + 1) {k : Nat} {x : α} (hx : xs[k]? = some x) : ∃ b o, a = some ⟨b, o, none⟩ :=
  Ro.pos h (by rw [fm_length hs]; have := (List.getElem?_eq_some_iff.1 hx).1; exact Nat.mul_pos (by omega) (by omega))
theorem fm_at {α : Type} {enc : α → List Value} {sz : Nat} {xs : List α} (hs : ∀ x, (enc x).length = sz) {k j : Nat} {x : α} {v : Value} (hx : xs[k]? = some x) (hv : (enc x)[j]? = some v) : (xs.flatMap enc)[0 + k * sz + j]? = some v := by
  rw [Nat.zero_add]; exact fm_get hs xs k j x v hx hv
theorem fm_at0 {α : Type} {enc : α → List Value} {sz : Nat} {xs : List α} (hs : ∀ x, (enc x).length = sz) {k : Nat} {x : α} {v : Value} (hx : xs[k]? = some x) (hv : (enc x)[0]? = some v) : (xs.flatMap enc)[0 + k * sz]? = some v := fm_at hs hx hv
theorem fm_one {α : Type} {enc : α → List Value} (h : ∀ x, ∀ u ∈ enc x, u.oneCell' = true) (xs : List α) : ∀ u ∈ xs.flatMap enc, u.oneCell' = true := fun u hu => by
  obtain ⟨x, _, hx⟩ := List.mem_flatMap.1 hu; exact h x u hx
def eInt (x : Int) : List Value := [.int .i64 x]
def eBool (x : Bool) : List Value := [.bool x]
theorem eInt_len (x : Int) : (eInt x).length = 1 := rfl
theorem eBool_len (x : Bool) : (eBool x).length = 1 := rfl
section
variable {P : Program} {r : Option Nat} {ops : Array Oper} {Q : Exit → Act → World → Prop} {w0 : World} {n : Nat} {D : List Deferred} {rest : List Oper} {L : Env} {A : List Atom}
variable {t : Nat} {ty : TypeId} {pos : String} {af : Array Edge} {g : Option (Nat × Bool)}
theorem Ops.to {y : Code} {Q' : Exit → Act → World → Prop} (hq : Q .normal = y.wpIn (Fw r) 0 P Q') (h : Cd P r y Q' w0 n D L A) : Ops P r ops Q w0 n D [] L A := Ops.nil (Cd.to hq h)
theorem Cd.skipTo {y : Code} {Q' : Exit → Act → World → Prop} (hq : Q .normal = y.wpIn (Fw r) 0 P Q') (h : Cd P r y Q' w0 n D L A) : Cd P r .skip Q w0 n D L A := Cd.skip (Cd.to hq h)
theorem Cd.exitTo {id : Nat} {y : Code} {Q' : Exit → Act → World → Prop} (hq : Q (.exit id) = y.wpIn (Fw r) 0 P Q') (h : Cd P r y Q' w0 n D L A) : Cd P r (.exit id) Q w0 n D L A := Cd.exit (Cd.to hq h)
theorem Cd.exitFin {id : Nat} {fn : Func} {R : Ending → World → Prop} (hq : Q (.exit id) = bodyPost P fn R .normal) (hr : fn.results = #[])
    (h : ∀ w, Sat w0 w A → R (.returned (.tuple #[])) w) : Cd P r (.exit id) Q w0 n [] L A :=
  Cd.exit (fun a w hk hs => by rw [hq]; exact endd (xs := []) (vs := []) (.inr rfl) hr trivial rfl h a w hk hs)
def Rnd {σ : Type} (I : σ → Prop) (Ls : σ → Env) (As : σ → List Atom) (μ : σ → Nat) (w0 : World) (n : Nat) (D : List Deferred) (m : Nat) (a : Act) (w : World) : Prop := ∃ s', I s' ∧ μ s' < m ∧ Kn n D (Ls s') a ∧ Sat w0 w (As s')
theorem Cd.lp {σ : Type} {c : Code} (I : σ → Prop) (Ls : σ → Env) (As : σ → List Atom) (μ : σ → Nat) (s0 : σ) (h0 : I s0) (hL : Sub (Ls s0) L) (hA : ∀ w, Sat w0 w A → Sat w0 w (As s0))
    (round : ∀ s, I s → Cd P r c (Exit.then (Rnd I Ls As μ w0 n D (μ s)) Q) w0 n D (Ls s) (As s)) : Cd P r (.loop c) Q w0 n D L A := Cd.loop I Ls As μ s0 h0 hL hA round
theorem Ops.rnd {σ : Type} {I : σ → Prop} {Ls : σ → Env} {As : σ → List Atom} {μ : σ → Nat} {m : Nat} (s' : σ) (hq : Q .normal = Rnd I Ls As μ w0 n D m) (hI : I s') (hm : μ s' < m) (hL : Sub (Ls s') L) (hA : ∀ w, Sat w0 w A → Sat w0 w (As s')) : Ops P r ops Q w0 n D [] L A :=
  Ops.nil (fun _ w hk hs => by rw [hq]; exact ⟨s', hI, hm, hk.sub hL, hA w hs⟩)
end
end Go.Proofs.YtilcdghliigngaaGreatDoorGl
namespace Go.Proofs.YtilcdghliigngaaGreatDoorGl
set_option linter.unusedVariables false
set_option linter.unusedSimpArgs false
open Go.RowKit
section
variable {P : Program} {r : Option Nat} {ops : Array Oper} {Q : Exit → Act → World → Prop} {w0 : World} {n : Nat} {D : List Deferred} {rest : List Oper} {L : Env} {A : List Atom}
variable {t : Nat} {ty : TypeId} {pos : String} {af : Array Edge} {g : Option (Nat × Bool)}
theorem q_min {x y : Operand} {ats : Array TypeId} {k k' : IntKind} {i j : Int} (hx : ev L x = some (.int k i)) (hy : ev L y = some (.int k' j)) : Qv P w0 n D L A (.call ⟨.builtin .min, #[x, y], ats⟩) (.int k (min i j)) := fun a w hk _ _ _ _ _ _ => ⟨by
    have e : (if j < i then j else i) = min i j := by split <;> omega
    simp [execOp, resolve, invoke, builtin, hk.ev hx, hk.ev hy, Builtin.min_, Builtin.min2, e], rfl⟩
theorem q_max {x y : Operand} {ats : Array TypeId} {k k' : IntKind} {i j : Int} (hx : ev L x = some (.int k i)) (hy : ev L y = some (.int k' j)) : Qv P w0 n D L A (.call ⟨.builtin .max, #[x, y], ats⟩) (.int k (max i j)) := fun a w hk _ _ _ _ _ _ => ⟨by
    have e : (if i < j then j else i) = max i j := by split <;> omega
    simp [execOp, resolve, invoke, builtin, hk.ev hx, hk.ev hy, Builtin.max_, Builtin.max2, e], rfl⟩
theorem Ops.cvE {f : Operand} {xs : List Operand} {ats : Array TypeId} {vs : List Value} {fv v : Value} (hf : ev L f = some fv) (hx : evs L xs = some vs)
    (hc : ∃ k, Enters P k ∧ fv = .func (.func k) #[] #[] ∧ ∀ w, Sat w0 w A → Calls P k vs.toArray w fun e w' => e = .returned v ∧ Sat w w' [])
    (h : Ops P r ops Q w0 n D rest ((t, v) :: L) A)
    (hg : gd ops L ⟨some t, .call ⟨.value f, xs.toArray, ats⟩, ty, pos, af, g⟩ = some true := by rfl) (ht : Nat.blt t n = true := by rfl) :
    Ops P r ops Q w0 n D (⟨some t, .call ⟨.value f, xs.toArray, ats⟩, ty, pos, af, g⟩ :: rest) L A := by
  obtain ⟨k, he, rfl, hc⟩ := hc
  exact Ops.cv (α := Unit) (k := k) (first := []) (caps := []) (v := fun _ => v) (A' := fun _ => A) he hf hx (fun w hs => by
    rw [List.nil_append, List.append_nil]
    exact (hc w hs).mono fun e w' h => ⟨(), h.1, by simpa using hs.over h.2⟩) (fun _ => h) hg ht
theorem rq_here {fn : Func} {R : Ending → World → Prop} : bodyPost P fn R .ret = bodyPost P fn R .ret := rfl
theorem rq_then {K : Act → World → Prop} {Q : Exit → Act → World → Prop} {X : Act → World → Prop} (h : Q .ret = X) : Exit.then K Q .ret = X := h
theorem rq_block {id : Nat} {Q : Exit → Act → World → Prop} {X : Act → World → Prop} (h : Q .ret = X) : Exit.inBlock id Q .ret = X := h
theorem Ops.mks {T E : TypeId} {x y : Operand} {zs : List Value} {sz by_ m : Nat} (hT : elT P T = some E) (hE : zsb P E = some (zs, sz, by_)) (hx : ev L x = some (.int .i64 (m : Int))) (hy : ev L y = some (.int .i64 (m : Int)))
    (hb : m * by_ ≤ 140737488355328) (hb' : m ≤ 140737488355328)
    (h : ∀ b, Ops P r ops Q w0 n D rest ((t, .slice (some ⟨b, 0, none⟩) m m) :: L) (row (some ⟨b, 0, none⟩) m E sz m (rep m zs) :: A))
    (hg : gd ops L ⟨some t, .makeSlice T x y, ty, pos, af, g⟩ = some true := by rfl) (ht : Nat.blt t n = true := by rfl) :
    Ops P r ops Q w0 n D (⟨some t, .makeSlice T x y, ty, pos, af, g⟩ :: rest) L A :=
  Ops.val (v := fun b => .slice (some ⟨b, 0, none⟩) m m) (A' := fun b => row (some ⟨b, 0, none⟩) m E sz m (rep m zs) :: A) hg rfl ht rfl (fun a w hk hs => by
    obtain ⟨i, z, hi, hz, hsz, hby, hzs, hzl⟩ := zsb_u hE
    have h63' : (m : Int) ≤ 9223372036854775807 := by omega
    have hb' : (i.bytes : Int) * (m : Int) ≤ 281474976710656 := by
      rw [hby, Int.mul_comm]
      have h : ((m * by_ : Nat) : Int) ≤ 281474976710656 := by omega
      rwa [Int.natCast_mul] at h
    have hr := run_make (P := P) w T E i z (elT_u hT) hi hz .i64 .i64 m m (by omega) (Int.le_refl _) hb' h63'
    simp only [Int.toNat_natCast] at hr
    refine ⟨w.heap.size, w.alloc (.cells (madeCells z.cells (m * i.size)) E), by simp only [execOp, hk.ev hx, hk.ev hy, Sem.run_bind, hr, Result.andThen_ok, Sem.run_pure], ?_⟩
    have e : (madeCells z.cells (m * i.size)) = (rep m zs).toArray := by
      apply Array.toList_inj.1
      rw [← hzl, hsz, ← hzs, ← rep_eq]
      rfl
    rw [e]
    exact hs.newRow E sz m (rep m zs) (by rw [rep_length, ← hzl, Array.length_toList, hzs]) (by simp only [maxLen]; omega)) h
theorem q_cut {T E : TypeId} {x y : Operand} {sz len cap k : Nat} {a : Option Addr} {kd : IntKind} (hT : elT P T = some E) (hz : szT P E = some sz) (hx : ev L x = some (.slice a len cap)) (hy : ev L y = some (.int kd (k : Int))) (hk : k ≤ len) :
    Qv P w0 n D L A (.slice T x (some y) none none) (.slice (if cap = k then a else a.map (·.add (k * sz))) (len - k) (cap - k)) := fun ac w hk' _ _ _ _ _ _ => ⟨by
    have h1 : (0 ≤ (k : Int) ∧ (k : Int) ≤ (len : Int)) := by omega
    simp [execOp, hk'.ev hx, hk'.ev hy, Instr.sliceAt, Instr.slice, run_underlying (elT_u hT), Instr.sliceBounds, Instr.sliceBound, asIntOf, h1, run_sizeOf hz]
    intro h; omega, rfl⟩
theorem q_cutH {T E : TypeId} {x y : Operand} {sz len cap k : Nat} {a : Option Addr} {kd : IntKind} (hT : elT P T = some E) (hz : szT P E = some sz) (hx : ev L x = some (.slice a len cap)) (hy : ev L y = some (.int kd (k : Int))) (hk : k ≤ cap) :
    Qv P w0 n D L A (.slice T x none (some y) none) (.slice (if cap = 0 then a else a.map (·.add 0)) k cap) := fun ac w hk' _ _ _ _ _ _ => ⟨by
    have h1 : (0 ≤ (k : Int) ∧ (k : Int) ≤ (cap : Int)) := by omega
    simp [execOp, hk'.ev hx, hk'.ev hy, Instr.sliceAt, Instr.slice, run_underlying (elT_u hT), Instr.sliceBounds, Instr.sliceBound, asIntOf, h1, run_sizeOf hz]
    intro h; omega, rfl⟩
theorem Ops.clr {T E : TypeId} {x : Operand} {zs cs : List Value} {sz by_ m cap : Nat} {a : Option Addr} {A' : List Atom} (hT : elT P T = some E) (hE : zsb P E = some (zs, sz, by_)) (hx : ev L x = some (.slice a m cap)) (h1 : ∀ u ∈ zs, u.oneCell' = true)
    (hu : Upd A (row a cap E sz m cs) (row a cap E sz m (rep m zs)) A') (h : Ops P r ops Q w0 n D rest ((t, .tuple #[]) :: L) A')
    (hg : gd ops L ⟨some t, .call ⟨.builtin .clear, #[x], #[T]⟩, ty, pos, af, g⟩ = some true := by rfl) (ht : Nat.blt t n = true := by rfl) :
    Ops P r ops Q w0 n D (⟨some t, .call ⟨.builtin .clear, #[x], #[T]⟩, ty, pos, af, g⟩ :: rest) L A :=
  Ops.val (α := Unit) (v := fun _ => .tuple #[]) (A' := fun _ => A') hg rfl ht rfl (fun ac w hk hs => by
    obtain ⟨i, z, hi, hz, hsz, hby, hzs, hzl⟩ := zsb_u hE
    obtain ⟨R, hp, hp'⟩ := hu.pull
    obtain ⟨S, hS, _, hgo⟩ := (hs.pull hp).step
    obtain ⟨⟨hlen, hown⟩, hSb⟩ := hS
    have hzl' : zs.length = sz := by rw [← hzl, Array.length_toList, hzs]
    rcases Nat.eq_zero_or_pos m with h0 | hm
    · subst h0
      have hc0 : cs = [] := List.eq_nil_of_length_eq_zero (by simpa using hlen)
      subst hc0
      refine ⟨(), w, ?_, Sat.push ?_ hp'⟩
      · cases a <;> simp [execOp, resolve, invoke, builtin, hk.ev hx, Builtin.clear_, run_underlying (elT_u hT)]
      · exact hgo (S' := S) ⟨⟨by simp [rep], hown⟩, hSb⟩ (fun _ h => .inl h) rfl rfl rfl (Nat.le_refl _) (fun _ _ _ => rfl)
    rcases hown with ⟨_, h0⟩ | ⟨b', cap', cur, hv0, _, hh, h2, h3, h4, h5⟩
    · omega
    · cases hv0
      have hcl : m * sz ≤ cur.size := Nat.le_trans (Nat.mul_le_mul_right sz h2) (by rw [h4]; exact Nat.le_refl _)
      have e : cur = (cs ++ cur.toList.drop (m * sz)).toArray := by
        apply Array.toList_inj.1
        simp only [← h5, List.take_append_drop]
      have hh' : w.heap[b']? = some (.cells (cs ++ cur.toList.drop (m * sz)).toArray E (0, 0)) := by rw [← e]; exact hh
      have hzc : (Builtin.zeroCells z.cells m).toList = rep m zs := by rw [← hzl, ← rep_eq]; rfl
      have hone : ∀ u ∈ rep m zs, u.oneCell' = true := by
        intro u hu2
        simp only [rep, List.mem_flatten, List.mem_replicate] at hu2
        obtain ⟨l, ⟨_, hl⟩, hu3⟩ := hu2
        exact h1 u (hl ▸ hu3)
      have hst := run_storeCells_at P b' 0 E (rep m zs) 0 (cs ++ cur.toList.drop (m * sz)).toArray w hh' (by rw [rep_length, hzl']; simp only [List.size_toArray, List.length_append, hlen]; omega) hone
      simp only [Nat.add_zero, Nat.zero_add, List.take_zero, List.nil_append] at hst
      have e2 : (cs ++ cur.toList.drop (m * sz)).drop (rep m zs).length = cur.toList.drop (m * sz) := by
        rw [rep_length, hzl', ← hlen]; simp
      refine ⟨(), w.setRow b' (rep m zs ++ cur.toList.drop (m * sz)).toArray, ?_, Sat.push ?_ hp'⟩
      · obtain ⟨m', rfl⟩ : ∃ m', m = m' + 1 := ⟨m - 1, by omega⟩
        have hzv : ∀ w, (zeroValue E).run P w = .ok z w := fun w => by simp [zeroValue, typeInfo, hi, hz]
        simp only [execOp, resolve, invoke, builtin, hk.ev hx, List.map_toArray, List.map_cons, List.map_nil, Sem.run_bind, Sem.run_pure, Result.andThen_ok, Builtin.clear_]
        simp [run_underlying (elT_u hT), hzv, hzc, hst, e2]
      · refine hgo (S' := fun k => k = b') ⟨⟨by rw [rep_length, hzl'], .inr ⟨b', cap, _, rfl, Nat.zero_le _, setRow_heap w b' _ _ E _ hh, h2, h3, ?_, ?_⟩⟩, fun k => by simp [Value.ownBlock, eq_comm]⟩ (fun k hk => .inl ((hSb k).2 (by simp [Value.ownBlock, hk])))
          rfl rfl rfl (by simp) (fun k _ hk => setRow_other w b' k _ (fun e => hk ((hSb k).2 (by simp [Value.ownBlock, e]))))
        · simp only [List.size_toArray, List.length_append, List.length_drop, Array.length_toList, rep_length, hzl', h4]
          rw [h4] at hcl
          omega
        · simp only [List.toList_toArray]
          rw [show m * sz = (rep m zs).length by rw [rep_length, hzl']]
          exact List.take_left) (fun _ => h)
def findI (k : Int) : List (Int × Value) → Nat → Option (Nat × Value)
  | [], _ => none
  | (j, v) :: es, i => if k = j then some (i, v) else findI k es (i + 1)
def ents (l : List MapEntry) (es : List (Int × Value)) : Prop := l.map (fun e => (e.key, e.val)) = es.map (fun p => (Value.int .i64 p.1, p.2))
theorem findNow_ents {kd : IntKind} (k : Int) : ∀ (l : List MapEntry) (es : List (Int × Value)) (i : Nat), ents l es → Instr.findNow (.int kd) (.int .i64 k) l i = some (findI k es i)
  | [], [], _, _ => rfl
  | [], _ :: _, _, h => by simp [ents] at h
  | _ :: _, [], _, h => by simp [ents] at h
  | e :: l, (j, v) :: es, i, h => by
    simp only [ents, List.map_cons, List.cons.injEq, Prod.mk.injEq] at h
    obtain ⟨⟨h1, h2⟩, h3⟩ := h
    simp only [Instr.findNow, h1, Instr.sameNow, if_true, findI, h2]
    by_cases hk : k = j
    · subst hk
      rw [show (k == k) = true by simp]; simp
    · rw [show (k == j) = false by simp [hk], if_neg hk]
      exact findNow_ents k l es (i + 1) h3
theorem findI_shift (k : Int) : ∀ (es : List (Int × Value)) (i : Nat), findI k es i = (findI k es 0).map (fun p => (p.1 + i, p.2))
  | [], _ => rfl
  | (j, v) :: es, i => by
    simp only [findI]
    split
    · simp
    · rw [findI_shift k es (i + 1), findI_shift k es 1]
      cases findI k es 0 <;> simp; omega
def looki (es : List (Int × Value)) (k : Int) : Option Value := (findI k es 0).map (·.2)
def updI (es : List (Int × Value)) (k : Int) (v : Value) : List (Int × Value) :=
  match findI k es 0 with
  | some (i, _) => es.modify i fun p => (p.1, v)
  | none => es ++ [(k, v)]
theorem findI_get (k : Int) : ∀ (es : List (Int × Value)) (i : Nat) (v : Value), findI k es 0 = some (i, v) → es[i]? = some (k, v)
  | [], i, v, h => by simp [findI] at h
  | (j, u) :: es, i, v, h => by
    simp only [findI] at h
    split at h
    · rename_i hk
      simp only [Option.some.injEq, Prod.mk.injEq] at h
      obtain ⟨rfl, rfl⟩ := h
      simp [hk]
    · rw [findI_shift] at h
      cases hf : findI k es 0 with
      | none => rw [hf] at h; cases h
      | some p =>
        rw [hf] at h
        simp only [Option.map_some, Option.some.injEq, Prod.mk.injEq] at h
        obtain ⟨rfl, rfl⟩ := h
        simpa using findI_get k es p.1 p.2 hf
def imap (b : Nat) (es : List (Int × Value)) : Atom where
  P := fun w S => (∃ l c, w.heap[b]? = some (.map l c) ∧ ents l.toList es) ∧ ∀ k, S k ↔ k = b
  loc := fun {w w' S} h hs => ⟨let ⟨l, c, h1, h2⟩ := h.1; ⟨l, c, (hs b ((h.2 b).2 rfl)).trans h1, h2⟩, h.2⟩
  lt := fun {w S k} h hk => by obtain ⟨⟨l, c, h1, _⟩, h2⟩ := h; rw [(h2 _).1 hk]; exact (Array.getElem?_eq_some_iff.1 h1).1
def mpT (P : Program) (t : TypeId) : Option (TypeId × TypeId) :=
  match P.underlying t with
  | some (.map k e) => some (k, e)
  | _ => none
theorem mpT_u {t k e : TypeId} (h : mpT P t = some (k, e)) : P.underlying t = some (.map k e) := by
  unfold mpT at h
  cases hu : P.underlying t with
  | none => rw [hu] at h; cases h
  | some d => rw [hu] at h; cases d <;> cases h; rfl
theorem run_checkInt {w : World} {kt : TypeId} {kd : IntKind} {k : Int} (hd : iK P kt = some kd) (e : Bool) : (Instr.checkKey e 10000 kt (.int .i64 k)).run P w = .ok () w := by
  rw [show (10000 : Nat) = 9999 + 1 from rfl]
  unfold Instr.checkKey
  simp only [Sem.run_bind, run_underlying (iK_u hd), Result.andThen_ok]
  rfl
theorem run_findInt {w : World} {kt : TypeId} {kd : IntKind} {k : Int} {l : List MapEntry} {es : List (Int × Value)} (hd : iK P kt = some kd) (h : ents l es) : (Instr.findKey kt (.int .i64 k) l).run P w = .ok (findI k es 0) w := by
  simp [Instr.findKey, run_underlying (iK_u hd), findNow_ents k l es 0 h]
theorem Ops.mkm {T : TypeId} (h : ∀ b, Ops P r ops Q w0 n D rest ((t, .map (some b)) :: L) (imap b [] :: A))
    (hg : gd ops L ⟨some t, .makeMap T none, ty, pos, af, g⟩ = some true := by rfl) (ht : Nat.blt t n = true := by rfl) :
    Ops P r ops Q w0 n D (⟨some t, .makeMap T none, ty, pos, af, g⟩ :: rest) L A :=
  Ops.val (v := fun b => .map (some b)) (A' := fun b => imap b [] :: A) hg rfl ht rfl (fun a w hk hs => by
    refine ⟨w.heap.size, w.alloc (.map #[] 0), by simp [execOp, Instr.makeMap, newObj, Sem.run], ?_⟩
    exact hs.add (Below.alloc (Below.refl _ _) (Nat.le_refl _) _) (S := fun k => k = w.heap.size) ⟨⟨_, _, heap_alloc_new w _, rfl⟩, fun _ => Iff.rfl⟩ (fun _ hk => by omega)) h
theorem q_lookW {T K E : TypeId} {kd : IntKind} {x y : Operand} {b : Nat} {k : Int} {v : Value} (hT : mpT P T = some (K, E)) (hK : iK P K = some kd) (hx : ev L x = some (.map (some b))) (hy : ev L y = some (.int .i64 k))
    (hv : ∀ w, Sat w0 w A → ∃ l c es, w.heap[b]? = some (.map l c) ∧ ents l.toList es ∧ (looki es k = some v ∨ looki es k = none ∧ (zeroValue E).run P w = .ok v w)) : Qv P w0 n D L A (.lookup T x y false) v := fun a w hk hs' _ _ _ _ _ => ⟨by
    obtain ⟨l, c, es, h1, h2, h3⟩ := hv w hs'
    simp only [execOp, hk.ev hx, hk.ev hy, Instr.lookup, Sem.run_bind, run_underlying (mpT_u hT), Result.andThen_ok, MapKept.run_getObj_map h1, Sem.run_pure, run_checkInt hK, run_findInt hK h2, looki] at h3 ⊢
    cases hf : findI k es 0 with
    | none =>
      rw [hf] at h3
      rcases h3 with h3 | ⟨_, h3⟩
      · cases h3
      · simp [h3]
    | some p =>
      rw [hf] at h3
      rcases h3 with h3 | ⟨h3, _⟩
      · simp only [Option.map_some, Option.some.injEq] at h3
        subst h3
        simp
      · simp at h3, rfl⟩
theorem q_look {T K E : TypeId} {kd : IntKind} {x y : Operand} {b : Nat} {k : Int} {v : Value} {es : List (Int × Value)} {A' : List Atom} (hT : mpT P T = some (K, E)) (hK : iK P K = some kd) (hx : ev L x = some (.map (some b))) (hy : ev L y = some (.int .i64 k))
    (hp : Pull A (imap b es) A') (hv : looki es k = some v ∨ looki es k = none ∧ ∀ w, (zeroValue E).run P w = .ok v w) : Qv P w0 n D L A (.lookup T x y false) v :=
  q_lookW hT hK hx hy (fun w hs => by
    obtain ⟨S, ⟨⟨l, c, h1, h2⟩, _⟩⟩ := hs.mem hp
    exact ⟨l, c, es, h1, h2, hv.imp id (fun h => ⟨h.1, h.2 w⟩)⟩)
theorem ents_modify {l : List MapEntry} {es : List (Int × Value)} (h : ents l es) (i : Nat) (k : Int) (v u : Value) (hi : es[i]? = some (k, u)) : ents (l.modify i fun e => { e with key := .int .i64 k, val := v }) (es.modify i fun p => (p.1, v)) := by
  unfold ents at *
  apply List.ext_getElem?
  intro j
  have hj := congrArg (·[j]?) h
  simp only [List.getElem?_map, List.getElem?_modify] at hj ⊢
  by_cases e : i = j
  · subst e
    rw [hi] at hj ⊢
    cases hl : l[i]? with
    | none => rw [hl] at hj; simp at hj
    | some m => simp
  · cases hl : l[j]? <;> cases he : es[j]? <;> simp_all
theorem run_mapUpdI {w : World} {T K E : TypeId} {kd : IntKind} {b c : Nat} {l : Array MapEntry} {es : List (Int × Value)} {k : Int} {v : Value} (hT : mpT P T = some (K, E)) (hK : iK P K = some kd) (hb : w.heap[b]? = some (.map l c)) (he : ents l.toList es) :
    ∃ l' c', (Instr.mapUpdate T (.map (some b)) (.int .i64 k) v).run P w = .ok () { w with heap := w.heap.setIfInBounds b (.map l' c') } ∧ ents l'.toList (updI es k v) := by
  simp only [Instr.mapUpdate, Sem.run_bind, run_underlying (mpT_u hT), Result.andThen_ok, MapKept.run_getObj_map hb, run_checkInt hK, run_findInt hK he, updI]
  cases hf : findI k es 0 with
  | none =>
    refine ⟨l.push _, c + 1, MapKept.run_setObj_map _ hb, ?_⟩
    unfold ents at *
    simp [he]
  | some p =>
    obtain ⟨i, u⟩ := p
    have hg := findI_get k es i u hf
    have hl : ∃ m, l[i]? = some m ∧ m.key = .int .i64 k := by
      have hj := congrArg (·[i]?) he
      simp only [List.getElem?_map, hg, Option.map_some, Array.getElem?_toList] at hj
      cases hm : l[i]? with
      | none => rw [hm] at hj; cases hj
      | some m => rw [hm] at hj; simp at hj; exact ⟨m, rfl, hj.1⟩
    obtain ⟨m, hm, hmk⟩ := hl
    have hst : ∀ w : World, (Instr.keyThatStays (.int .i64 k) (.int .i64 k)).run P w = .ok (.int .i64 k) w := by
      intro w
      unfold Instr.keyThatStays
      rw [show (10000 : Nat) = 9999 + 1 from rfl]
      simp [Instr.sameBits]
    refine ⟨l.modify i fun e => { e with key := .int .i64 k, val := v }, c, ?_, ?_⟩
    · simp only [hm, Option.map_some, hmk, Option.getD_some, Sem.run_bind, hst, Result.andThen_ok]
      exact MapKept.run_setObj_map _ hb
    · rw [Array.toList_modify]
      exact ents_modify he i k v u hg
theorem Ops.mpu {T K E : TypeId} {kd : IntKind} {x y z : Operand} {b : Nat} {k : Int} {v : Value} {es : List (Int × Value)} {A' : List Atom} (hT : mpT P T = some (K, E)) (hK : iK P K = some kd) (hx : ev L x = some (.map (some b))) (hy : ev L y = some (.int .i64 k)) (hz : ev L z = some v)
    (hu : Upd A (imap b es) (imap b (updI es k v)) A') (h : Ops P r ops Q w0 n D rest L A')
    (hg : gd ops L ⟨none, .mapUpdate T x y z, ty, pos, af, g⟩ = some true := by rfl) :
    Ops P r ops Q w0 n D (⟨none, .mapUpdate T x y z, ty, pos, af, g⟩ :: rest) L A :=
  Ops.act (α := Unit) (A' := fun _ => A') hg rfl rfl (fun a w hk hs => by
    obtain ⟨R, hp, hp'⟩ := hu.pull
    obtain ⟨S, hS, _, hgo⟩ := (hs.pull hp).step
    obtain ⟨⟨l, c, hb, he⟩, hSb⟩ := hS
    obtain ⟨l', c', hr, he'⟩ := run_mapUpdI (v := v) (k := k) hT hK hb he
    refine ⟨(), { w with heap := w.heap.setIfInBounds b (.map l' c') }, by simp only [execOp, hk.ev hx, hk.ev hy, hk.ev hz, Sem.run_bind, hr, Result.andThen_ok, Sem.run_pure], Sat.push ?_ hp'⟩
    obtain ⟨h1, h2⟩ := MapKept.heap_set (o' := .map l' c') hb
    exact hgo (S' := fun k => k = b) ⟨⟨l', c', h1, he'⟩, fun _ => Iff.rfl⟩ (fun k hk => .inl ((hSb k).2 hk)) rfl rfl rfl (by simp) (fun k _ hk => h2 k (fun e => hk ((hSb k).2 e)))) (fun _ => h)
end
end Go.Proofs.YtilcdghliigngaaGreatDoorGl
namespace Go.Proofs.YtilcdghliigngaaGreatDoorGl
set_option linter.unusedVariables false
set_option linter.unusedSimpArgs false
open Go.RowKit
def bun (B : List Atom) : Atom where
  P := fun w S => Sats w B S
  loc := fun h hs => Sats.loc h hs
  lt := fun h hk => Sats.lt h _ hk
theorem Sats.split {w : World} : ∀ {B A : List Atom} {T : Nat → Prop}, Sats w (B ++ A) T → ∃ S U, Sats w B S ∧ Sats w A U ∧ (∀ k, S k → ¬ U k) ∧ ∀ k, T k ↔ S k ∨ U k
  | [], A, T, h => ⟨fun _ => False, T, fun _ h => h, h, fun _ h => h.elim, fun k => ⟨.inr, fun h => h.elim (fun h => h.elim) id⟩⟩
  | b :: B, A, T, ⟨S, V, hb, hr, hd, ht⟩ => by
    obtain ⟨S', U, hB, hA, hd', ht'⟩ := Sats.split hr
    refine ⟨fun k => S k ∨ S' k, U, ⟨S, S', hb, hB, fun k hk hs => hd k hk ((ht' k).2 (.inl hs)), fun _ => Iff.rfl⟩, hA, ?_, ?_⟩
    · rintro k (hk | hk) hu
      · exact hd k hk ((ht' k).2 (.inr hu))
      · exact hd' k hk hu
    · intro k; rw [ht k, ht' k, or_assoc]
theorem Sat.bundle {w0 w : World} {B A : List Atom} (h : Sat w0 w (B ++ A)) : Sat w0 w (bun B :: A) := by
  obtain ⟨hB, T, hs, ht⟩ := h
  obtain ⟨S, U, h1, h2, h3, h4⟩ := Sats.split hs
  exact ⟨hB, T, ⟨S, U, h1, h2, h3, h4⟩, ht⟩
theorem Sat.unbundle {w0 w : World} {B A : List Atom} (h : Sat w0 w (bun B :: A)) : Sat w0 w (B ++ A) := by
  obtain ⟨hB, T, ⟨S, U, h1, h2, h3, h4⟩, ht⟩ := h
  exact ⟨hB, _, Sats.append h2 h1 (fun k hk hu => h3 k hk hu), fun k hk => ht k ((h4 k).2 hk)⟩
def rd (φ : World → Prop) : Atom where
  P := fun w S => φ w ∧ (∀ k, S k → k < w.heap.size) ∧ ∀ w', (∀ k, S k → w'.heap[k]? = w.heap[k]?) → φ w'
  loc := fun {w w' S} h hs => ⟨h.2.2 w' hs, fun k hk => by
    have h1 := h.2.1 k hk
    have h2 := hs k hk
    rw [Array.getElem?_eq_getElem h1] at h2
    exact (Array.getElem?_eq_some_iff.1 h2).1, fun w'' hs' => h.2.2 w'' (fun k hk => (hs' k hk).trans (hs k hk))⟩
  lt := fun h hk => h.2.1 _ hk
theorem Sat.freeze {w0 w : World} {B A : List Atom} {φ : World → Prop} (h : Sat w0 w (bun B :: A)) (hφ : ∀ w S, Sats w B S → φ w) : Sat w0 w (rd φ :: A) := by
  obtain ⟨hB, T, ⟨S, U, h1, h2, h3, h4⟩, ht⟩ := h
  exact ⟨hB, T, ⟨S, U, ⟨hφ w S h1, fun k hk => Sats.lt h1 k hk, fun w' hs => hφ w' S (Sats.loc h1 hs)⟩, h2, h3, h4⟩, ht⟩
theorem Sat.read {w0 w : World} {φ : World → Prop} {A A' : List Atom} (h : Sat w0 w A) (hp : Pull A (rd φ) A') : φ w := by
  obtain ⟨S, hS⟩ := h.mem hp; exact hS.1
theorem Pull.right {a : Atom} {X X' : List Atom} (h : Pull X a X') : ∀ (J : List Atom), Pull (J ++ X) a (J ++ X')
  | [] => h
  | _ :: J => .there (Pull.right h J)
theorem Upd.right {a a' : Atom} {X X' : List Atom} (h : Upd X a a' X') : ∀ (J : List Atom), Upd (J ++ X) a a' (J ++ X')
  | [] => h
  | _ :: J => .there (Upd.right h J)
def Lps : List Nat → List Value → Env → Env
  | p :: ps, v :: vs, L => Lps ps vs ((p, v) :: L)
  | _, _, L => L
theorem Kn.params {n : Nat} {D : List Deferred} : ∀ (ps : List Nat) (vs : List Value) (L : Env) (tmps : Array Value), (∀ p ∈ ps, p < n) → Kn n D L ⟨tmps, D⟩ →
    Kn n D (Lps ps vs L) ⟨(ps.zip vs).foldl (fun t p => t.setIfInBounds p.1 p.2) tmps, D⟩
  | [], _, _, _, _, h => by simpa [Lps] using h
  | p :: ps, [], _, _, _, h => by simpa [Lps] using h
  | p :: ps, v :: vs, L, tmps, hp, h => by
    simp only [Lps, List.zip_cons_cons, List.foldl_cons]
    exact Kn.params ps vs ((p, v) :: L) _ (fun q hq => hp q (.tail _ hq)) (h.put (hp p (.head _)) v)
def lrec (st : LoopState) (l n : Nat) (L : Env) (ps : List Nat) (assign body : Code) : Atom where
  P := fun w S => (∃ fn tmps d, w.heap[l]? = some (.loop { state := st, pending := none, fn, tmps, params := ps.toArray, assign, body, defers := d }) ∧ Kn n [] L ⟨tmps, []⟩) ∧ ∀ k, S k ↔ k = l
  loc := fun {w w' S} h hs => ⟨let ⟨fn, tmps, d, h1, h2⟩ := h.1; ⟨fn, tmps, d, (hs l ((h.2 l).2 rfl)).trans h1, h2⟩, h.2⟩
  lt := fun {w S k} h hk => by obtain ⟨⟨_, _, _, h1, _⟩, h2⟩ := h; rw [(h2 _).1 hk]; exact (Array.getElem?_eq_some_iff.1 h1).1
def dblk (b : Nat) : Atom where
  P := fun w S => w.heap[b]? = some (.deferred (some [])) ∧ ∀ k, S k ↔ k = b
  loc := fun h hs => ⟨(hs b ((h.2 b).2 rfl)).trans h.1, h.2⟩
  lt := fun h hk => by rw [(h.2 _).1 hk]; exact (Array.getElem?_eq_some_iff.1 h.1).1
def junk (b : Nat) : Atom where
  P := fun w S => (w.heap[b]?).isSome = true ∧ ∀ k, S k ↔ k = b
  loc := fun {w w' S} h hs => ⟨by rw [hs b ((h.2 b).2 rfl)]; exact h.1, h.2⟩
  lt := fun {w S k} h hk => by
    rw [(h.2 _).1 hk]
    obtain ⟨o, ho⟩ := Option.isSome_iff_exists.1 h.1
    exact (Array.getElem?_eq_some_iff.1 ho).1
abbrev mark (d : Nat) : Deferred := { target := .collected d, args := #[] }
def YCall (P : Program) (l : Nat) (args : Array Value) (w : World) (R : World → Prop) : Prop :=
  ∃ f tmps asg bd, (Instr.yield l args).run P w = .ok (.round l f tmps asg bd) w ∧ RoundIn (Fw none) 0 P l f tmps asg bd w (fun e w' => e = .returned (.bool true) ∧ R w')
theorem YCall.mono {P : Program} {l : Nat} {args : Array Value} {w : World} {R R' : World → Prop} (h : YCall P l args w R) (hr : ∀ w, R w → R' w) : YCall P l args w R' := by
  obtain ⟨f, tmps, asg, bd, h1, h2⟩ := h
  exact ⟨f, tmps, asg, bd, h1, h2.mono (fun e w' h => ⟨h.1, hr _ h.2⟩)⟩
def Iter {α : Type} (P : Program) (k : FuncId) (caps : List Value) (enc : α → List Value) (xs : List α) (w0 : World) (X : List Atom) : Prop :=
  ∀ (J : List α → List Atom) (l : Nat) (w : World), (∀ Y pre x w, (∃ post, pre ++ x :: post = xs) → Sat w0 w (bun (J pre) :: Y) → YCall P l (enc x).toArray w (fun w' => Sat w0 w' (bun (J (pre ++ [x])) :: Y))) →
    Sat w0 w (bun (J []) :: X) → Calls P k (.func (.yield l) #[] #[] :: caps).toArray w (fun e w' => e = .returned (.tuple #[]) ∧ Sat w0 w' (bun (J xs) :: X))
section
variable {P : Program} {ops : Array Oper} {Q : Exit → Act → World → Prop} {w0 : World} {n : Nat} {D : List Deferred} {rest : List Oper} {L : Env} {A : List Atom}
variable {t : Nat} {ty : TypeId} {pos : String} {af : Array Edge} {g : Option (Nat × Bool)}
theorem Ops.yl {f : Operand} {l : Nat} {xs : List Operand} {ats : Array TypeId} {vs : List Value} {A' : List Atom} (hf : ev L f = some (.func (.yield l) #[] #[])) (hx : evs L xs = some vs)
    (hc : ∀ w, Sat w0 w A → YCall P l vs.toArray w (fun w' => Sat w0 w' A')) (h : Ops P none ops Q w0 n D rest ((t, .bool true) :: L) A')
    (hg : gd ops L ⟨some t, .call ⟨.value f, xs.toArray, ats⟩, ty, pos, af, g⟩ = some true := by rfl) (ht : Nat.blt t n = true := by rfl) :
    Ops P none ops Q w0 n D (⟨some t, .call ⟨.value f, xs.toArray, ats⟩, ty, pos, af, g⟩ :: rest) L A := by
  intro a w hk hs
  unfold wpListIn
  rw [hk.gd hg]
  simp only [if_true]
  refine ⟨fun _ _ => trivial, ?_⟩
  obtain ⟨fn, tmps, asg, bd, h1, h2⟩ := hc w hs
  have e : xs.toArray.map a.eval = vs.toArray := by rw [List.map_toArray, evs_ok hk hx]
  have hrun : (execOp a.eval ⟨some t, .call ⟨.value f, xs.toArray, ats⟩, ty, pos, af, g⟩).run P w = .ok (.round l fn tmps asg bd) w := by
    simp only [execOp, resolve, e, hk.ev hf, Deferred.ofValue, Sem.run_bind, Sem.run_pure, Result.andThen_ok, invoke]
    simpa using h1
  rw [semAt_noDefer _ _ rfl, hrun, Oper.uponIn_round]
  refine ⟨fun hn => (by simp at hn), RoundIn.mono h2 (fun e w' he => ?_)⟩
  obtain ⟨rfl, hs'⟩ := he
  exact h _ _ (hk.put (by simpa [Nat.blt_eq] using ht) _) hs'
theorem roundPost_mono {l : Nat} {R R' : Ending → World → Prop} (hr : ∀ e w, R e w → R' e w) {e : Exit} {a : Act} {w : World} (h : roundPost P l R e a w) : roundPost P l R' e a w := by
  cases e with
  | normal => obtain ⟨v, w', h1, h2⟩ := h; exact ⟨v, w', h1, hr _ _ h2⟩
  | ret => obtain ⟨v, w', h1, h2⟩ := h; exact ⟨v, w', h1, hr _ _ h2⟩
  | exit id => obtain ⟨v, w', h1, h2⟩ := h; exact ⟨v, w', h1, hr _ _ h2⟩
  | goto t => obtain ⟨v, w', h1, h2⟩ := h; exact ⟨v, w', h1, hr _ _ h2⟩
  | panic ch => exact h
  | outgrown => exact h
def BeginK (P : Program) (l : Nat) (body : Code) (R : Ending → World → Prop) (a : Act) (w : World) : Prop :=
  ∃ w₂, (Instr.beginRound l).run P w = .ok () w₂ ∧ body.wpIn (Fw (some l)) 0 P (roundPost P l R) a w₂
theorem putObj_step {w : World} {a a' : Atom} {l : Nat} {o o' : Obj} {A : List Atom} (h : Sat w0 w (a :: A)) (ho : w.heap[l]? = some o) (hS : ∀ S, a.P w S → ∀ k, S k ↔ k = l) (ha : ∀ S, a.P w S → a'.P (w.putObj l o') S) : Sat w0 (w.putObj l o') (a' :: A) := by
  obtain ⟨S, hSa, _, hgo⟩ := h.step
  have hlt := (Array.getElem?_eq_some_iff.1 ho).1
  refine hgo (ha S hSa) (fun k hk => .inl hk) rfl rfl rfl (by simp [World.putObj]) (fun k _ hk => ?_)
  have hne : l ≠ k := fun e => hk ((hS S hSa k).2 e.symm)
  simp [World.putObj, hne]
theorem Cd.range {α : Type} {gop : Operand} {ps : List Nat} {assign body y : Code} {Q' : Exit → Act → World → Prop} {k : FuncId} {caps : List Value} {enc : α → List Value} {xs : List α} {X : List Atom} (J : List α → List Atom)
    (hI : Iter P k caps enc xs w0 X) (he : Enters P k) (hg : ev L gop = some (.func (.func k) #[] caps.toArray)) (hA : ∀ w, Sat w0 w A → Sat w0 w (J [] ++ X)) (hps : ps.all (fun p => Nat.blt p n) = true) (hsz : ∀ x, (enc x).length = ps.length)
    (hround : ∀ (l d : Nat) (Y : List Atom) (pre : List α) (x : α), (∃ post, pre ++ x :: post = xs) →
      Cd P (some l) assign (Exit.then (BeginK P l body (fun e w' => e = .returned (.bool true) ∧ Sat w0 w' (lrec .ready l n L ps assign body :: dblk d :: (J (pre ++ [x]) ++ Y)))) (fun _ _ _ => False)) w0 n [] (Lps ps (enc x) L) (lrec .ready l n L ps assign body :: dblk d :: (J pre ++ Y)))
    (hq : Q .normal = y.wpIn (Fw none) 0 P Q') (hnext : ∀ d, Cd P none y Q' w0 n (mark d :: D) L (dblk d :: (J xs ++ X))) : Cd P none (.rangeFunc gop ps.toArray assign body) Q w0 n D L A := by
  intro a w hk hs
  refine wpIn_rangeFunc (F := Fw none) ?_
  intro fn _
  have hs1 := hA w hs
  let w1 := (w.alloc (.deferred (some []))).alloc (.loop { state := .ready, pending := none, fn, tmps := a.tmps, params := ps.toArray, assign, body, defers := w.heap.size })
  have hsz1 : (w.alloc (.deferred (some []))).heap.size = w.heap.size + 1 := World.size_alloc ..
  have hs2 : Sat w0 (w.alloc (.deferred (some []))) (dblk w.heap.size :: (J [] ++ X)) :=
    hs1.add (Below.alloc (Below.refl _ _) (Nat.le_refl _) _) (S := fun k => k = w.heap.size) ⟨heap_alloc_new w _, fun _ => Iff.rfl⟩ (fun _ hk => by omega)
  have hkr : Kn n [] L ⟨a.tmps, []⟩ := ⟨hk.size, rfl, hk.look⟩
  have hs3 : Sat w0 w1 (lrec .ready (w.heap.size + 1) n L ps assign body :: dblk w.heap.size :: (J [] ++ X)) := by
    refine hs2.add (Below.alloc (Below.refl _ _) (Nat.le_refl _) _) (S := fun k => k = w.heap.size + 1) ⟨⟨fn, a.tmps, w.heap.size, ?_, hkr⟩, fun _ => Iff.rfl⟩ (fun _ hk => by omega)
    have := heap_alloc_new (w.alloc (.deferred (some []))) (.loop { state := .ready, pending := none, fn, tmps := a.tmps, params := ps.toArray, assign, body, defers := w.heap.size })
    rw [hsz1] at this
    exact this
  refine ⟨w.heap.size + 1, [mark w.heap.size], w1, ⟨.fn (.func k) caps.toArray, #[.func (.yield (w.heap.size + 1)) #[] #[]]⟩, w1, k, (.func (.yield (w.heap.size + 1)) #[] #[] :: caps).toArray, w1, run_enterLoop_outer .., ?_, fun _ _ => trivial, ?_, fun h => by simp at h, ?_⟩
  · have e1 : a.eval gop = .func (.func k) #[] caps.toArray := hk.ev hg
    simp only [resolve, e1, Deferred.ofValue]
    simp [Act.eval]
  · have := he (.func (.yield (w.heap.size + 1)) #[] #[] :: caps).toArray w1
    simpa [invoke] using this
  · have hb : Sat w0 w1 (bun (lrec .ready (w.heap.size + 1) n L ps assign body :: dblk w.heap.size :: J []) :: X) := Sat.bundle hs3
    have hc := hI (fun pre => lrec .ready (w.heap.size + 1) n L ps assign body :: dblk w.heap.size :: J pre) (w.heap.size + 1) w1 ?_ hb
    · refine callsIn_Fw (hc.mono fun e w' hh => ?_)
      obtain ⟨rfl, hs'⟩ := hh
      have hs' := hs'.unbundle
      obtain ⟨S, ⟨⟨fn', tmps', d', h1, h2⟩, h3⟩⟩ := hs'.mem .here
      refine ⟨none, _, run_endLoop h1 (by simp), ?_⟩
      simp only []
      rw [hq]
      refine hnext w.heap.size _ _ ⟨hk.size, by simp [hk.defers], hk.look⟩ ?_
      have h4 := putObj_step (a' := junk (w.heap.size + 1)) (o' := .loop { state := .exhausted, pending := none, fn := fn', tmps := tmps', params := ps.toArray, assign, body, defers := d' }) hs' h1 (fun S h => h.2) (fun S h => ⟨by
        have hlt := (Array.getElem?_eq_some_iff.1 h1).1
        simp [World.putObj, hlt], h.2⟩)
      exact h4.drop
    · intro Y pre x w' hpost hsy
      have hsy := hsy.unbundle
      obtain ⟨S, ⟨⟨fn', tmps', d', h1, h2⟩, h3⟩⟩ := hsy.mem .here
      refine ⟨fn', _, assign, body, run_yield h1 (by simp [hsz]), ?_⟩
      refine roundIn_of_wpIn (F := Fw none) trivial ?_
      have hkx := Kn.params ps (enc x) L tmps' (fun p hp => by simpa [Nat.blt_eq] using List.all_eq_true.1 hps p hp) h2
      have hr := hround (w.heap.size + 1) w.heap.size Y pre x hpost ⟨_, []⟩ w' hkx hsy
      have e : (ps.toArray.zip (enc x).toArray).foldl (fun (tmps : Array Value) (p : Nat × Value) => tmps.setIfInBounds p.1 p.2) tmps' = (ps.zip (enc x)).foldl (fun t p => t.setIfInBounds p.1 p.2) tmps' := by
        rw [List.zip_toArray, List.foldl_toArray]
      show Code.wpIn _ _ _ _ _ ⟨_, []⟩ w'
      rw [show (ps.toArray.zip (enc x).toArray).foldl (fun (tmps : Array Value) (x : Nat × Value) => match x with | (t, a) => tmps.setIfInBounds t a) tmps' = (ps.zip (enc x)).foldl (fun t p => t.setIfInBounds p.1 p.2) tmps' from e]
      refine wpIn_mono hr (fun e a1 w1 hh => ?_)
      cases e with
      | normal =>
        obtain ⟨w2, hb1, hb2⟩ := hh
        exact ⟨w2, hb1, wpIn_mono hb2 (fun e a w h => roundPost_mono (fun e w h => ⟨h.1, Sat.bundle h.2⟩) h)⟩
      | _ => exact hh
theorem endM {fn : Func} {R : Ending → World → Prop} {e : Exit} {xs : List ResultVar} {vs : List Value} {d : Nat} {A' : List Atom} (he : e = .ret ∨ e = .normal) (hr : fn.results = xs.toArray) (hv : Ress P w0 L A' xs vs) (hp : Pull A (dblk d) A')
    (h : ∀ w, Sat w0 w A' → R (.returned (joinV vs)) w) (a : Act) (w : World) (hk : Kn n [mark d] L a) (hs : Sat w0 w A) : bodyPostM (Fw none) 0 P fn R e a w := by
  have hs1 := hs.pull hp
  obtain ⟨S, h1, h2⟩ := hs.mem hp
  have h4 := putObj_step (a' := junk d) (o' := .deferred none) hs1 h1 (fun S h => h.2) (fun S h => ⟨by
    have hlt := (Array.getElem?_eq_some_iff.1 h1).1
    simp [World.putObj, hlt], h.2⟩)
  have hk0 : Kn n [] L ⟨a.tmps, []⟩ := ⟨hk.size, rfl, hk.look⟩
  have h5 := run_results (P := P) hk0 h4.drop hr hv
  have : LeavesInM (Fw none) 0 P fn a.tmps R a.defers .returning w := by
    rw [hk.defers]
    exact ⟨by simp, .inl ⟨d, _, rfl, run_takeDeferred h1, _, h5, h _ h4.drop⟩⟩
  rcases he with rfl | rfl <;> exact this
theorem Cd.rtM {r : Option Nat} {fn : Func} {R : Ending → World → Prop} {xs : List ResultVar} (vs : List Value) {d : Nat} {A' : List Atom} (hq : Q .ret = bodyPostM (Fw none) 0 P fn R .ret) (hr : fn.results = xs.toArray) (hv : Ress P w0 L A' xs vs) (hp : Pull A (dblk d) A')
    (h : ∀ w, Sat w0 w A' → R (.returned (joinV vs)) w) : Cd P r .ret Q w0 n [mark d] L A :=
  Cd.ret (fun a w hk hs => by rw [hq]; exact endM (.inl rfl) hr hv hp h a w hk hs)
theorem rqM_here {fn : Func} {R : Ending → World → Prop} : bodyPostM (Fw none) 0 P fn R .ret = bodyPostM (Fw none) 0 P fn R .ret := rfl
end
end Go.Proofs.YtilcdghliigngaaGreatDoorGl
namespace Go.Proofs.YtilcdghliigngaaGreatDoorGl
set_option linter.unusedVariables false
set_option linter.unusedSimpArgs false
open Go.RowKit
theorem ble_ok {a b : Nat} (h : a ≤ b) : Nat.ble a b = true := by rw [Nat.ble_eq]; exact h
def eB2 (ops : Array Oper) (listed : Array Bool) (i j : Nat) : Bool := Region.ready .any ops listed == [i, j]
section
variable {P : Program} {r : Option Nat} {ops : Array Oper} {Q : Exit → Act → World → Prop} {w0 : World} {n : Nat} {D : List Deferred} {rest : List Oper} {L : Env} {A : List Atom}
variable {t : Nat} {ty : TypeId} {pos : String} {af : Array Edge} {g : Option (Nat × Bool)}
variable {St : World → Prop} {K : Act → World → Prop} {f : Nat} {listed : Array Bool}
theorem Dr.e2 {i j : Nat} {o o' : Oper} (hi : ops[i]? = some o) (hj : ops[j]? = some o') (hB : eB2 ops listed i j = true)
    (h : Ops P r ops (NQ (fun a w => St w ∧ (Region.noSelect ops = true → plainB ops = true → wpK P r ops St K f (listed.setIfInBounds i true) a w))) w0 n D [o] L A)
    (h' : Ops P r ops (NQ (fun a w => St w ∧ (Region.noSelect ops = true → plainB ops = true → wpK P r ops St K f (listed.setIfInBounds j true) a w))) w0 n D [o'] L A) : Dr P r ops St K w0 n D (f + 1) listed L A := by
  intro a w hk hs hst hsel hpl
  simp only [eB2, beq_iff_eq] at hB
  refine .inl ⟨fun h => (by rw [hB] at h; cases h), fun q hq => ?_⟩
  rw [hB] at hq
  have key : ∀ (i : Nat) (o : Oper), ops[i]? = some o → Ops P r ops (NQ (fun a w => St w ∧ (Region.noSelect ops = true → plainB ops = true → wpK P r ops St K f (listed.setIfInBounds i true) a w))) w0 n D [o] L A →
      wpOpIn (Fw r) 0 P ops (fun _ _ _ => False) i (fun a w => St w ∧ wpK P r ops St K f (listed.setIfInBounds i true) a w) a w := by
    intro i o hi h
    have h1 := h a w hk hs
    have h2 : wpOpIn (Fw r) 0 P ops (NQ (fun a w => St w ∧ (Region.noSelect ops = true → plainB ops = true → wpK P r ops St K f (listed.setIfInBounds i true) a w))) i
        (fun a w => St w ∧ (Region.noSelect ops = true → plainB ops = true → wpK P r ops St K f (listed.setIfInBounds i true) a w)) a w := by
      unfold wpListIn at h1
      unfold wpOpIn
      simp only [hi]
      exact h1
    exact oper_Q (fun a w (h : St w ∧ (Region.noSelect ops = true → plainB ops = true → wpK P r ops St K f (listed.setIfInBounds i true) a w)) => ⟨h.1, h.2 hsel hpl⟩) h2
  rcases List.mem_cons.1 hq with rfl | hq
  · exact key _ _ hi h
  · obtain rfl := List.mem_singleton.1 hq
    exact key _ _ hj h'
theorem xq_here {fn : Func} {R : Ending → World → Prop} : bodyPost P fn R .normal = bodyPost P fn R .normal := rfl
theorem xq_then {K : Act → World → Prop} {Q : Exit → Act → World → Prop} {X : Act → World → Prop} {id : Nat} (h : Q (.exit id) = X) : Exit.then K Q (.exit id) = X := h
theorem xq_block {id : Nat} {Q : Exit → Act → World → Prop} {X : Act → World → Prop} (h : Q .normal = X) : Exit.inBlock id Q (.exit id) = X := by
  rw [← h]; unfold Exit.inBlock; simp
theorem nq_block {id : Nat} {Q : Exit → Act → World → Prop} {X : Act → World → Prop} (h : Q .normal = X) : Exit.inBlock id Q .normal = X := h
theorem q_ixA {s : TypeId} {x y : Operand} {z m b o k : Nat} {kd : IntKind} (hz : asz P s = some (m, z)) (hx : ev L x = some (.pointer (some ⟨b, o, none⟩))) (hy : ev L y = some (.int kd (k : Int))) (hk : k < m)
    : Qv P w0 n D L A (.indexAddr s x y) (.pointer (some ⟨b, o + k * z, none⟩)) := fun a w hk' _ _ _ _ _ _ => ⟨by
    unfold asz at hz
    cases hu : P.underlying s with
    | none => rw [hu] at hz; cases hz
    | some d =>
      rw [hu] at hz
      cases d <;> try (cases hz; done)
      rename_i n' e
      obtain ⟨i', hi, he⟩ := Option.map_eq_some_iff.1 hz
      simp only [Prod.mk.injEq] at he
      obtain ⟨rfl, rfl⟩ := he
      have h0 : 0 ≤ (k : Int) ∧ (k : Int) < (n' : Int) := by omega
      simp [execOp, hk'.ev hx, hk'.ev hy, Instr.indexAt, asIntOf, run_underlying hu, Instr.sureAddr, h0, hk, sizeOf, typeInfo, hi, add_at], rfl⟩
theorem q_nilS {T E tz : TypeId} {x y : Operand} {a : Option Addr} {m c m' c' : Nat} (hT : elT P T = some E) (hx : ev L x = some (.slice a m c)) (hy : ev L y = some (.slice none m' c')) : Qv P w0 n D L A (.binOp .eql T x y tz) (.bool a.isNone) := fun ac w hk _ _ _ _ _ _ => ⟨by
    have h1 := Lib.run_eql_slice_nil (P := P) w T E a m c m' c' (elT_u hT)
    have h2 : (eqGuard .eql T x y (.slice a m c) (.slice none m' c')).run P w = .ok () w := by simp [eqGuard, run_program]
    simp only [execOp, hk.ev hx, hk.ev hy, Sem.run_bind, h2, Result.andThen_ok, h1, Sem.run_pure], rfl⟩
end
end Go.Proofs.YtilcdghliigngaaGreatDoorGl
namespace Go.Proofs.YtilcdghliigngaaGreatDoorGl
set_option linter.unusedVariables false
set_option linter.unusedSimpArgs false
open Go.RowKit
section
variable {P : Program} {r : Option Nat} {ops : Array Oper} {Q : Exit → Act → World → Prop} {w0 : World} {n : Nat} {D : List Deferred} {rest : List Oper} {L : Env} {A : List Atom}
def MidQ {β : Type} (w0 : World) (n : Nat) (L1 : β → Env) (A1 : β → List Atom) (Y : List Atom) : Exit → Act → World → Prop := fun e a w => e = .normal ∧ ∃ b, Kn n [] (L1 b) a ∧ Sat w0 w (A1 b ++ Y)
def EndQ (w0 : World) (A2 Y : List Atom) : Exit → Act → World → Prop := fun e _ w => e = .normal ∧ Sat w0 w (A2 ++ Y)
theorem Ops.mid {β : Type} {L1 : β → Env} {A1 : β → List Atom} {Y : List Atom} (b : β) (hL : Sub (L1 b) L) (hA : ∀ w, Sat w0 w A → Sat w0 w (A1 b ++ Y)) : Ops P r ops (MidQ w0 n L1 A1 Y) w0 n [] [] L A :=
  Ops.nil (fun _ w hk hs => ⟨rfl, b, hk.sub hL, hA w hs⟩)
theorem nq_nq {Q : Exit → Act → World → Prop} {X : Act → World → Prop} (h : Q .normal = X) : NQ (fun a w => Q .normal a w) .normal = X := h
theorem nq_end {A2 Y : List Atom} : EndQ w0 A2 Y .normal = EndQ w0 A2 Y .normal := rfl
theorem Ops.endQ {A2 Y : List Atom} (hq : Q .normal = EndQ w0 A2 Y .normal) (hA : ∀ w, Sat w0 w A → Sat w0 w (A2 ++ Y)) : Ops P r ops Q w0 n [] [] L A :=
  Ops.nil (fun _ w hk hs => by rw [hq]; exact ⟨rfl, hA w hs⟩)
theorem Cd.endQ {A2 Y : List Atom} (hq : Q .normal = EndQ w0 A2 Y .normal) (hA : ∀ w, Sat w0 w A → Sat w0 w (A2 ++ Y)) : Cd P r .skip Q w0 n [] L A :=
  Cd.skip (fun _ w hk hs => by rw [hq]; exact ⟨rfl, hA w hs⟩)
theorem Sat.toEnd {w : World} {a : Atom} {B X : List Atom} (h : Sat w0 w (a :: (B ++ X))) : Sat w0 w (B ++ a :: X) := Sat.push h (Pull.right .here B)
theorem Sat.toTop {w : World} {a : Atom} {B X : List Atom} (h : Sat w0 w (B ++ a :: X)) : Sat w0 w (a :: (B ++ X)) := h.pull (Pull.right .here B)
theorem Ops.val0 {α : Type} {o : Oper} {v : α → Value} {A' : α → List Atom} (hg : gd ops L o = some true) (hd : o.dst = none) (hnd : noDefer o.op = true)
    (hrun : ∀ a w, Kn n D L a → Sat w0 w A → ∃ x w', (execOp a.eval o).run P w = .ok (.value (v x)) w' ∧ Sat w0 w' (A' x))
    (h : ∀ x, Ops P r ops Q w0 n D rest L (A' x)) : Ops P r ops Q w0 n D (o :: rest) L A := by
  intro a w hk hs
  unfold wpListIn
  rw [hk.gd hg]
  simp only [if_true]
  obtain ⟨x, w', hr, hs'⟩ := hrun a w hk hs
  refine ⟨fun _ _ => trivial, ?_⟩
  rw [semAt_noDefer _ _ hnd, hr, Oper.uponIn_value, hd]
  exact h x _ _ hk hs'
theorem run_clr {T E : TypeId} {zs cs cs' : List Value} {sz by_ m cap : Nat} {a : Option Addr} {A' : List Atom} (hT : elT P T = some E) (hE : zsb P E = some (zs, sz, by_)) (h1 : ∀ u ∈ zs, u.oneCell' = true)
    (hr : rep m zs = cs') (hu : Upd A (row a cap E sz m cs) (row a cap E sz m cs') A') (ty : TypeId) (cc : Array Bool) (w : World) (hs : Sat w0 w A) : ∃ w', (builtin .clear #[T] ty cc #[.slice a m cap]).run P w = .ok (.value (.tuple #[])) w' ∧ Sat w0 w' A' := by
  subst hr
  obtain ⟨i, z, hi, hz, hsz, hby, hzs, hzl⟩ := zsb_u hE
  obtain ⟨R, hp, hp'⟩ := hu.pull
  obtain ⟨S, hS, _, hgo⟩ := (hs.pull hp).step
  obtain ⟨⟨hlen, hown⟩, hSb⟩ := hS
  have hzl' : zs.length = sz := by rw [← hzl, Array.length_toList, hzs]
  rcases Nat.eq_zero_or_pos m with h0 | hm
  · subst h0
    have hc0 : cs = [] := List.eq_nil_of_length_eq_zero (by simpa using hlen)
    subst hc0
    refine ⟨w, ?_, Sat.push ?_ hp'⟩
    · cases a <;> simp [builtin, Builtin.clear_, run_underlying (elT_u hT)]
    · exact hgo (S' := S) ⟨⟨by simp [rep], hown⟩, hSb⟩ (fun _ h => .inl h) rfl rfl rfl (Nat.le_refl _) (fun _ _ _ => rfl)
  rcases hown with ⟨_, h0⟩ | ⟨b', cap', cur, hv0, _, hh, h2, h3, h4, h5⟩
  · omega
  · cases hv0
    have hcl : m * sz ≤ cur.size := Nat.le_trans (Nat.mul_le_mul_right sz h2) (by rw [h4]; exact Nat.le_refl _)
    have e : cur = (cs ++ cur.toList.drop (m * sz)).toArray := by
      apply Array.toList_inj.1
      simp only [← h5, List.take_append_drop]
    have hh' : w.heap[b']? = some (.cells (cs ++ cur.toList.drop (m * sz)).toArray E (0, 0)) := by rw [← e]; exact hh
    have hzc : (Builtin.zeroCells z.cells m).toList = rep m zs := by rw [← hzl, ← rep_eq]; rfl
    have hone : ∀ u ∈ rep m zs, u.oneCell' = true := by
      intro u hu2
      simp only [rep, List.mem_flatten, List.mem_replicate] at hu2
      obtain ⟨l, ⟨_, hl⟩, hu3⟩ := hu2
      exact h1 u (hl ▸ hu3)
    have hst := run_storeCells_at P b' 0 E (rep m zs) 0 (cs ++ cur.toList.drop (m * sz)).toArray w hh' (by rw [rep_length, hzl']; simp only [List.size_toArray, List.length_append, hlen]; omega) hone
    simp only [Nat.add_zero, Nat.zero_add, List.take_zero, List.nil_append] at hst
    have e2 : (cs ++ cur.toList.drop (m * sz)).drop (rep m zs).length = cur.toList.drop (m * sz) := by
      rw [rep_length, hzl', ← hlen]; simp
    refine ⟨w.setRow b' (rep m zs ++ cur.toList.drop (m * sz)).toArray, ?_, Sat.push ?_ hp'⟩
    · obtain ⟨m', rfl⟩ : ∃ m', m = m' + 1 := ⟨m - 1, by omega⟩
      have hzv : ∀ w, (zeroValue E).run P w = .ok z w := fun w => by simp [zeroValue, typeInfo, hi, hz]
      simp only [builtin, Sem.run_bind, Sem.run_pure, Result.andThen_ok, Builtin.clear_]
      simp [run_underlying (elT_u hT), hzv, hzc, hst, e2]
    · refine hgo (S' := fun k => k = b') ⟨⟨by rw [rep_length, hzl'], .inr ⟨b', cap, _, rfl, Nat.zero_le _, setRow_heap w b' _ _ E _ hh, h2, h3, ?_, ?_⟩⟩, fun k => by simp [Value.ownBlock, eq_comm]⟩ (fun k hk => .inl ((hSb k).2 (by simp [Value.ownBlock, hk])))
        rfl rfl rfl (by simp) (fun k _ hk => setRow_other w b' k _ (fun e => hk ((hSb k).2 (by simp [Value.ownBlock, e]))))
      · simp only [List.size_toArray, List.length_append, List.length_drop, Array.length_toList, rep_length, hzl', h4]
        rw [h4] at hcl
        omega
      · simp only [List.toList_toArray]
        rw [show m * sz = (rep m zs).length by rw [rep_length, hzl']]
        exact List.take_left
theorem Ops.clr2 {ty : TypeId} {pos : String} {af : Array Edge} {g : Option (Nat × Bool)} {T E : TypeId} {x : Operand} {zs cs cs' : List Value} {sz by_ m cap : Nat} {a : Option Addr} {A' : List Atom} (hT : elT P T = some E) (hE : zsb P E = some (zs, sz, by_)) (hx : ev L x = some (.slice a m cap)) (h1 : ∀ u ∈ zs, u.oneCell' = true)
    (hr : rep m zs = cs') (hu : Upd A (row a cap E sz m cs) (row a cap E sz m cs') A') (h : Ops P r ops Q w0 n D rest L A')
    (hg : gd ops L ⟨none, .call ⟨.builtin .clear, #[x], #[T]⟩, ty, pos, af, g⟩ = some true := by rfl) :
    Ops P r ops Q w0 n D (⟨none, .call ⟨.builtin .clear, #[x], #[T]⟩, ty, pos, af, g⟩ :: rest) L A :=
  Ops.val0 (α := Unit) (v := fun _ => .tuple #[]) (A' := fun _ => A') hg rfl rfl (fun ac w hk hs => by
    obtain ⟨w', h2, h3⟩ := run_clr hT hE h1 hr hu ty (#[x].map fun | .const _ => true | _ => false) w hs
    refine ⟨(), w', ?_, h3⟩
    simp only [execOp, resolve, invoke, hk.ev hx, List.map_toArray, List.map_cons, List.map_nil, Sem.run_bind, Sem.run_pure, Result.andThen_ok]
    exact h2) (fun _ => h)
theorem Cd.range2 {α β : Type} {gop : Operand} {ps : List Nat} {assign body y : Code} {Q' : Exit → Act → World → Prop} {k : FuncId} {caps : List Value} {enc : α → List Value} {xs : List α} {X : List Atom} (J : List α → List Atom) (L1 : α → β → Env) (A1 : List α → α → β → List Atom)
    (hI : Iter P k caps enc xs w0 X) (he : Enters P k) (hg : ev L gop = some (.func (.func k) #[] caps.toArray)) (hA : ∀ w, Sat w0 w A → Sat w0 w (J [] ++ X)) (hps : ps.all (fun p => Nat.blt p n) = true) (hsz : ∀ x, (enc x).length = ps.length)
    (hassign : ∀ (l : Nat) (Y : List Atom) (pre : List α) (x : α), (∃ post, pre ++ x :: post = xs) → Cd P (some l) assign (MidQ w0 n (L1 x) (A1 pre x) Y) w0 n [] (Lps ps (enc x) L) (J pre ++ Y))
    (hbody : ∀ (l : Nat) (Y : List Atom) (pre : List α) (x : α) (b : β), (∃ post, pre ++ x :: post = xs) → Cd P (some l) body (EndQ w0 (J (pre ++ [x])) Y) w0 n [] (L1 x b) (A1 pre x b ++ Y))
    (hq : Q .normal = y.wpIn (Fw none) 0 P Q') (hnext : ∀ d, Cd P none y Q' w0 n (mark d :: D) L (dblk d :: (J xs ++ X))) : Cd P none (.rangeFunc gop ps.toArray assign body) Q w0 n D L A := by
  intro a w hk hs
  refine wpIn_rangeFunc (F := Fw none) ?_
  intro fn _
  have hs1 := hA w hs
  let w1 := (w.alloc (.deferred (some []))).alloc (.loop { state := .ready, pending := none, fn, tmps := a.tmps, params := ps.toArray, assign, body, defers := w.heap.size })
  have hsz1 : (w.alloc (.deferred (some []))).heap.size = w.heap.size + 1 := World.size_alloc ..
  have hs2 : Sat w0 (w.alloc (.deferred (some []))) (dblk w.heap.size :: (J [] ++ X)) :=
    hs1.add (Below.alloc (Below.refl _ _) (Nat.le_refl _) _) (S := fun k => k = w.heap.size) ⟨heap_alloc_new w _, fun _ => Iff.rfl⟩ (fun _ hk => by omega)
  have hkr : Kn n [] L ⟨a.tmps, []⟩ := ⟨hk.size, rfl, hk.look⟩
  have hs3 : Sat w0 w1 (lrec .ready (w.heap.size + 1) n L ps assign body :: dblk w.heap.size :: (J [] ++ X)) := by
    refine hs2.add (Below.alloc (Below.refl _ _) (Nat.le_refl _) _) (S := fun k => k = w.heap.size + 1) ⟨⟨fn, a.tmps, w.heap.size, ?_, hkr⟩, fun _ => Iff.rfl⟩ (fun _ hk => by omega)
    have := heap_alloc_new (w.alloc (.deferred (some []))) (.loop { state := .ready, pending := none, fn, tmps := a.tmps, params := ps.toArray, assign, body, defers := w.heap.size })
    rw [hsz1] at this
    exact this
  refine ⟨w.heap.size + 1, [mark w.heap.size], w1, ⟨.fn (.func k) caps.toArray, #[.func (.yield (w.heap.size + 1)) #[] #[]]⟩, w1, k, (.func (.yield (w.heap.size + 1)) #[] #[] :: caps).toArray, w1, run_enterLoop_outer .., ?_, fun _ _ => trivial, ?_, fun h => by simp at h, ?_⟩
  · have e1 : a.eval gop = .func (.func k) #[] caps.toArray := hk.ev hg
    simp only [resolve, e1, Deferred.ofValue]
    simp [Act.eval]
  · have := he (.func (.yield (w.heap.size + 1)) #[] #[] :: caps).toArray w1
    simpa [invoke] using this
  · have hb : Sat w0 w1 (bun (J [] ++ [lrec .ready (w.heap.size + 1) n L ps assign body, dblk w.heap.size]) :: X) := by
      refine Sat.bundle ?_
      rw [List.append_assoc]
      have h5 : Sat w0 w1 (dblk w.heap.size :: (J [] ++ lrec .ready (w.heap.size + 1) n L ps assign body :: X)) := Sat.toEnd (B := dblk w.heap.size :: J []) hs3
      have h6 := Sat.toEnd h5
      exact Sat.push ((h6.pull (Pull.right (.there .here) (J [])))) (Pull.right .here (J []))
    have hc := hI (fun pre => J pre ++ [lrec .ready (w.heap.size + 1) n L ps assign body, dblk w.heap.size]) (w.heap.size + 1) w1 ?_ hb
    · refine callsIn_Fw (hc.mono fun e w' hh => ?_)
      obtain ⟨rfl, hs'⟩ := hh
      have hs' := hs'.unbundle
      rw [List.append_assoc] at hs'
      have hs' := Sat.toTop (a := lrec .ready (w.heap.size + 1) n L ps assign body) (X := dblk w.heap.size :: X) hs'
      obtain ⟨S, ⟨⟨fn', tmps', d', h1, h2⟩, h3⟩⟩ := hs'.mem .here
      refine ⟨none, _, run_endLoop h1 (by simp), ?_⟩
      simp only []
      rw [hq]
      refine hnext w.heap.size _ _ ⟨hk.size, by simp [hk.defers], hk.look⟩ ?_
      have h4 := putObj_step (a' := junk (w.heap.size + 1)) (o' := .loop { state := .exhausted, pending := none, fn := fn', tmps := tmps', params := ps.toArray, assign, body, defers := d' }) hs' h1 (fun S h => h.2) (fun S h => ⟨by
        have hlt := (Array.getElem?_eq_some_iff.1 h1).1
        simp [World.putObj, hlt], h.2⟩)
      exact Sat.toTop h4.drop
    · intro Y pre x w' hpost hsy
      have hsy := hsy.unbundle
      rw [List.append_assoc] at hsy
      obtain ⟨S, ⟨⟨fn', tmps', d', h1, h2⟩, h3⟩⟩ := (Sat.toTop (a := lrec .ready (w.heap.size + 1) n L ps assign body) (X := dblk w.heap.size :: Y) hsy).mem .here
      refine ⟨fn', _, assign, body, run_yield h1 (by simp [hsz]), ?_⟩
      refine roundIn_of_wpIn (F := Fw none) trivial ?_
      have hkx := Kn.params ps (enc x) L tmps' (fun p hp => by simpa [Nat.blt_eq] using List.all_eq_true.1 hps p hp) h2
      have hr := hassign (w.heap.size + 1) (lrec .ready (w.heap.size + 1) n L ps assign body :: dblk w.heap.size :: Y) pre x hpost ⟨_, []⟩ w' hkx hsy
      have e : (ps.toArray.zip (enc x).toArray).foldl (fun (tmps : Array Value) (p : Nat × Value) => tmps.setIfInBounds p.1 p.2) tmps' = (ps.zip (enc x)).foldl (fun t p => t.setIfInBounds p.1 p.2) tmps' := by
        rw [List.zip_toArray, List.foldl_toArray]
      show Code.wpIn _ _ _ _ _ ⟨_, []⟩ w'
      rw [show (ps.toArray.zip (enc x).toArray).foldl (fun (tmps : Array Value) (x : Nat × Value) => match x with | (t, a) => tmps.setIfInBounds t a) tmps' = (ps.zip (enc x)).foldl (fun t p => t.setIfInBounds p.1 p.2) tmps' from e]
      refine wpIn_mono hr (fun e a1 w1 hh => ?_)
      obtain ⟨rfl, b, hk1, hs1⟩ := hh
      have hs2 := Sat.toTop hs1
      obtain ⟨S, ⟨⟨fn2, tmps2, d2, g1, g2⟩, g3⟩⟩ := hs2.mem .here
      have h7 := putObj_step (a' := lrec .busy (w.heap.size + 1) n L ps assign body) (o' := .loop { state := .busy, pending := none, fn := fn2, tmps := tmps2, params := ps.toArray, assign, body, defers := d2 }) hs2 g1 (fun S h => h.2) (fun S h => ⟨⟨fn2, tmps2, d2, by
        have hlt := (Array.getElem?_eq_some_iff.1 g1).1
        simp [World.putObj, hlt], g2⟩, h.2⟩)
      refine ⟨_, run_beginRound g1 rfl, ?_⟩
      refine wpIn_mono (hbody (w.heap.size + 1) (lrec .busy (w.heap.size + 1) n L ps assign body :: dblk w.heap.size :: Y) pre x b hpost a1 _ hk1 (Sat.toEnd h7)) (fun e a2 w2 hh => ?_)
      obtain ⟨rfl, hs3⟩ := hh
      have hs4 := Sat.toTop hs3
      obtain ⟨S, ⟨⟨fn3, tmps3, d3, g1, g2⟩, g3⟩⟩ := hs4.mem .here
      have h8 := putObj_step (a' := lrec .ready (w.heap.size + 1) n L ps assign body) (o' := .loop { state := .ready, pending := none, fn := fn3, tmps := tmps3, params := ps.toArray, assign, body, defers := d3 }) hs4 g1 (fun S h => h.2) (fun S h => ⟨⟨fn3, tmps3, d3, by
        have hlt := (Array.getElem?_eq_some_iff.1 g1).1
        simp [World.putObj, hlt], g2⟩, h.2⟩)
      refine ⟨_, _, run_endRound none g1, rfl, Sat.bundle ?_⟩
      rw [List.append_assoc]
      exact Sat.toEnd h8
end
end Go.Proofs.YtilcdghliigngaaGreatDoorGl
namespace Go.Proofs.YtilcdghliigngaaGreatDoorGl
set_option linter.unusedVariables false
set_option linter.unusedSimpArgs false
open Go.RowKit
def intFs (P : Program) : Nat → List Field → Bool
  | _, [] => true
  | i, f :: fs => f.name != "_" && f.offset == i && (iK P f.type).isSome && isA P f.type == some false && intFs P (i + 1) fs
def intS (P : Program) (T : TypeId) : Option Nat :=
  match P.underlying T with
  | some (.struct fs) => if (!P.stoodInHeld T && !P.eqGuardType P.depth T && intFs P 0 fs.toList) = true then some fs.size else none
  | _ => none
def ints (xs : List Int) : List Value := xs.map (.int .i64)
section
variable {P : Program} {r : Option Nat} {ops : Array Oper} {Q : Exit → Act → World → Prop} {w0 : World} {n : Nat} {D : List Deferred} {rest : List Oper} {L : Env} {A : List Atom}
theorem run_part1 {t : TypeId} {cs : Array Value} {o : Nat} {v : Value} {w : World} (h : isA P t = some false) (hv : cs[o]? = some v) : (part t cs o).run P w = .ok v w := by
  simp only [part, Sem.run_bind, run_isAgg h, Result.andThen_ok, Bool.false_eq_true, if_false, hv, Sem.run_pure]
theorem run_eqInts (d : Nat) (w : World) (vs us : List Int) : ∀ (fs : List Field) (i : Nat), intFs P i fs = true → i + fs.length = vs.length → us.length = vs.length →
    (Op.eqFields (d + 1) (ints vs).toArray (ints us).toArray fs).run P w = .ok (vs.drop i == us.drop i) w
  | [], i, _, h1, h2 => by
    have e1 : vs.drop i = [] := List.drop_eq_nil_of_le (by simp at h1; omega)
    have e2 : us.drop i = [] := List.drop_eq_nil_of_le (by simp at h1; omega)
    rw [e1, e2]
    simp [Op.eqFields]
  | f :: fs, i, h, h1, h2 => by
    simp only [intFs, Bool.and_eq_true, beq_iff_eq, bne_iff_ne, ne_eq] at h
    obtain ⟨⟨⟨⟨hn, ho⟩, hk⟩, ha⟩, hr⟩ := h
    obtain ⟨k, hk⟩ := Option.isSome_iff_exists.1 hk
    simp only [List.length_cons] at h1
    obtain ⟨a, hva⟩ : ∃ a, vs[i]? = some a := ⟨_, List.getElem?_eq_getElem (by omega)⟩
    obtain ⟨b, hub⟩ : ∃ b, us[i]? = some b := ⟨_, List.getElem?_eq_getElem (by omega)⟩
    have p1 : ∀ w, (part f.type (ints vs).toArray f.offset).run P w = .ok (.int .i64 a) w := fun w => run_part1 ha (by rw [ho]; simp [ints, hva])
    have p2 : ∀ w, (part f.type (ints us).toArray f.offset).run P w = .ok (.int .i64 b) w := fun w => run_part1 ha (by rw [ho]; simp [ints, hub])
    have p3 := run_equalIn_int (P := P) w d f.type .i64 k a b (iK_u hk)
    have hd : ∀ {xs : List Int} {c : Int}, xs[i]? = some c → xs.drop i = c :: xs.drop (i + 1) := fun {xs c} h => by
      obtain ⟨hk, he⟩ := List.getElem?_eq_some_iff.1 h
      rw [List.drop_eq_getElem_cons hk, he]
    have ih := run_eqInts d w vs us fs (i + 1) hr (by omega) h2
    simp only [Op.eqFields, hn, ne_eq, not_false_eq_true, if_true, Sem.run_bind, p1, p2, p3, Result.andThen_ok]
    rw [hd hva, hd hub]
    by_cases hab : a = b
    · subst hab
      simp [ih]
    · have : (a == b) = false := by simp [hab]
      simp [this]
theorem run_eqS {T : TypeId} {vs us : List Int} {w : World} (hT : intS P T = some vs.length) (hl : us.length = vs.length) : P.eqGuardType P.depth T = false ∧ (Op.equalIn 10000 T (.agg (ints vs).toArray) (.agg (ints us).toArray)).run P w = .ok (vs == us) w := by
  unfold intS at hT
  cases hu : P.underlying T with
  | none => rw [hu] at hT; cases hT
  | some d =>
    rw [hu] at hT
    cases d <;> try (cases hT; done)
    rename_i fs
    simp only [] at hT
    split at hT
    · rename_i hc
      simp only [Bool.and_eq_true, Bool.not_eq_true'] at hc
      obtain ⟨⟨h1, h2⟩, h3⟩ := hc
      have hf : P.fieldsOf T = fs := by simp [Program.fieldsOf, hu]
      have h4 := run_equalIn_struct (P := P) w 9999 T (ints vs).toArray (ints us).toArray (by rw [hf]; exact hu) h1
      have h5 := run_eqInts (P := P) 9998 w vs us fs.toList 0 h3 (by have := Option.some.inj hT; simp; omega) hl
      rw [hf] at h4
      refine ⟨h2, ?_⟩
      rw [h4, h5]; simp
    · cases hT
end
end Go.Proofs.YtilcdghliigngaaGreatDoorGl
namespace Go.Proofs.YtilcdghliigngaaGreatDoorGl
set_option linter.unusedVariables false
set_option linter.unusedSimpArgs false
open Go.RowKit
section
variable {P : Program} {r : Option Nat} {ops : Array Oper} {Q : Exit → Act → World → Prop} {w0 : World} {n : Nat} {D : List Deferred} {rest : List Oper} {L : Env} {A : List Atom}
variable {t : Nat} {ty : TypeId} {pos : String} {af : Array Edge} {g : Option (Nat × Bool)}
theorem q_and {tx tz : TypeId} {x y : Operand} {k : IntKind} {i j v : Int} (hx : ev L x = some (.int k i)) (hy : ev L y = some (.int k j)) (hv : k.wrap (BitVec.ofInt k.bits i &&& BitVec.ofInt k.bits j).toNat = v) : Qv P w0 n D L A (.binOp .and tx x y tz) (.int k v) := fun a w hk _ _ _ _ _ _ => ⟨by
  subst hv
  simp [execOp, hk.ev hx, hk.ev hy, eqGuard, binOp, Op.intBits], rfl⟩
theorem q_shr {tx tz : TypeId} {x y : Operand} {k k' : IntKind} {i v : Int} {j : Nat} (hx : ev L x = some (.int k i)) (hy : ev L y = some (.int k' (j : Int))) (hv : i.fdiv (2 ^ min j k.bits) = v) : Qv P w0 n D L A (.binOp .shr tx x y tz) (.int k v) := fun a w hk _ _ _ _ _ _ => ⟨by
  subst hv
  have : ¬ (j : Int) < 0 := by omega
  simp [execOp, hk.ev hx, hk.ev hy, eqGuard, binOp, Op.shift, this], rfl⟩
theorem q_cutP {T E : TypeId} {x y : Operand} {sz len cap k b o : Nat} {kd : IntKind} (hT : elT P T = some E) (hz : szT P E = some sz) (hx : ev L x = some (.slice (some ⟨b, o, none⟩) len cap)) (hy : ev L y = some (.int kd (k : Int))) (hk : k ≤ len) (hc : k < cap) :
    Qv P w0 n D L A (.slice T x (some y) none none) (.slice (some ⟨b, o + k * sz, none⟩) (len - k) (cap - k)) := by
  have := q_cut (P := P) (w0 := w0) (n := n) (D := D) (A := A) hT hz hx hy hk
  rw [if_neg (by omega)] at this
  simpa [add_at] using this
theorem q_cutHP {T E : TypeId} {x y : Operand} {sz len cap k b o : Nat} {kd : IntKind} (hT : elT P T = some E) (hz : szT P E = some sz) (hx : ev L x = some (.slice (some ⟨b, o, none⟩) len cap)) (hy : ev L y = some (.int kd (k : Int))) (hk : k ≤ cap) :
    Qv P w0 n D L A (.slice T x none (some y) none) (.slice (some ⟨b, o, none⟩) k cap) := by
  have := q_cutH (P := P) (w0 := w0) (n := n) (D := D) (A := A) hT hz hx hy hk
  have e : (if cap = 0 then (some ⟨b, o, none⟩ : Option Addr) else (some ⟨b, o, none⟩ : Option Addr).map (·.add 0)) = some ⟨b, o, none⟩ := by
    split
    · rfl
    · simp [add_at]
  rwa [e] at this
theorem run_first {w : World} {a : Option Addr} {sl sc k sz : Nat} {news : List Value} (hr : Ro w a news) (hl : news.length = k * sz) : (Builtin.firstCells sz k (.slice a sl sc)).run P w = .ok news.toArray w := by
  rcases Nat.eq_zero_or_pos news.length with h0 | h0
  · have hn : news = [] := List.eq_nil_of_length_eq_zero h0
    subst hn
    have hk : k * sz = 0 := by simpa using hl.symm
    have hk2 : sz * k = 0 := by rw [Nat.mul_comm]; exact hk
    cases a with
    | none =>
      rcases Nat.mul_eq_zero.1 hk with rfl | rfl <;> simp [Builtin.firstCells]
    | some p => simp [Builtin.firstCells, loadCells, loadCellsFrom, hk, hk2]
  · obtain ⟨b, o, rfl⟩ := hr.pos h0
    have h1 := run_loadCells_list (P := P) w ⟨b, o, none⟩ news (fun j v hj => by rw [add_at]; exact hr.at hj)
    rw [hl] at h1
    simp [Builtin.firstCells, h1, Nat.mul_comm]
theorem Ops.cpy {T E : TypeId} {x y : Operand} {cs cs' news : List Value} {sz cap m k b o dl dc sl sc : Nat} {sa : Option Addr} {A' : List Atom} (hT : elT P T = some E) (hz : szT P E = some sz) (hx : ev L x = some (.slice (some ⟨b, o, none⟩) dl dc)) (hy : ev L y = some (.slice sa sl sc)) (hk : min sl dl = k)
    (hn : ∀ w, Sat w0 w A → Ro w sa news) (hnl : news.length = k * sz) (h1 : ∀ u ∈ news, u.oneCell' = true) (hu : Upd A (row (some ⟨b, 0, none⟩) cap E sz m cs) (row (some ⟨b, 0, none⟩) cap E sz m cs') A') (hl : o + news.length ≤ cs.length) (hc : cs.take o ++ news ++ cs.drop (o + news.length) = cs')
    (h : Ops P r ops Q w0 n D rest ((t, .int .i64 (k : Int)) :: L) A')
    (hg : gd ops L ⟨some t, .call ⟨.builtin .copy, #[x, y], #[T, T]⟩, ty, pos, af, g⟩ = some true := by rfl) (ht : Nat.blt t n = true := by rfl) :
    Ops P r ops Q w0 n D (⟨some t, .call ⟨.builtin .copy, #[x, y], #[T, T]⟩, ty, pos, af, g⟩ :: rest) L A :=
  Ops.val (α := Unit) (v := fun _ => .int .i64 (k : Int)) (A' := fun _ => A') hg rfl ht rfl (fun ac w hk' hs => by
    obtain ⟨R, hp, hp'⟩ := hu.pull
    have hro := hn w hs
    obtain ⟨S, hS, _, hgo⟩ := (hs.pull hp).step
    obtain ⟨⟨hlen, hown⟩, hSb⟩ := hS
    rcases hown with ⟨h0, _⟩ | ⟨b', cap', cur, hv0, _, hh, h2, h3, h4, h5⟩
    · cases h0
    · cases hv0
      have hcl : cs.length ≤ cur.size := by rw [← h5, List.length_take]; simp; omega
      have e : cur = (cs ++ cur.toList.drop (m * sz)).toArray := by
        apply Array.toList_inj.1
        simp only [← h5, List.take_append_drop]
      have hh' : w.heap[b]? = some (.cells (cs ++ cur.toList.drop (m * sz)).toArray E (0, 0)) := by rw [← e]; exact hh
      have hst := run_storeCells_at P b o E news 0 (cs ++ cur.toList.drop (m * sz)).toArray w hh' (by simp; omega) h1
      simp only [Nat.add_zero] at hst
      have e2 : (cs ++ cur.toList.drop (m * sz)).take o ++ news ++ (cs ++ cur.toList.drop (m * sz)).drop (o + news.length) = cs' ++ cur.toList.drop (m * sz) := by
        rw [← hc, List.take_append_of_le_length (by omega), List.drop_append_of_le_length (by omega)]
        simp
      rw [e2] at hst
      have hk2 : Nat.min sl dl = k := hk
      have hf := run_first (P := P) (sl := sl) (sc := sc) hro hnl
      refine ⟨(), w.setRow b (cs' ++ cur.toList.drop (m * sz)).toArray, ?_, Sat.push ?_ hp'⟩
      · simp only [execOp, resolve, invoke, builtin, hk'.ev hx, hk'.ev hy, List.map_toArray, List.map_cons, List.map_nil, Sem.run_bind, Sem.run_pure, Result.andThen_ok, Builtin.copy_]
        simp [run_underlying (elT_u hT), Builtin.lenOf, hk2, run_sizeOf hz, hf, hst, goInt]
      · have hcl' : cs'.length = cs.length := by rw [← hc]; simp; omega
        refine hgo (S' := fun k => k = b) ⟨⟨by rw [hcl', hlen], .inr ⟨b, cap, _, rfl, Nat.zero_le _, setRow_heap w b _ _ E _ hh, h2, h3, ?_, ?_⟩⟩, fun k => by simp [Value.ownBlock, eq_comm]⟩ (fun k hk => .inl ((hSb k).2 (by simp [Value.ownBlock, hk])))
          rfl rfl rfl (by simp) (fun k _ hk => setRow_other w b k _ (fun e => hk ((hSb k).2 (by simp [Value.ownBlock, e]))))
        · simp only [List.size_toArray, List.length_append, List.length_drop, Array.length_toList, hcl', hlen]
          rw [hlen] at hcl
          omega
        · simp only [List.toList_toArray]
          rw [← hlen, ← hcl']
          exact List.take_left) (fun _ => h)
end
end Go.Proofs.YtilcdghliigngaaGreatDoorGl
namespace Go.Proofs.YtilcdghliigngaaGreatDoorGl
set_option linter.unusedVariables false
set_option linter.unusedSimpArgs false
open Go.RowKit
section
variable {P : Program} {r : Option Nat} {ops : Array Oper} {Q : Exit → Act → World → Prop} {w0 : World} {n : Nat} {D : List Deferred} {rest : List Oper} {L : Env} {A : List Atom}
variable {t : Nat} {ty : TypeId} {pos : String} {af : Array Edge} {g : Option (Nat × Bool)}
theorem q_cap {x : Operand} {s E : TypeId} {a : Option Addr} {len cap : Nat} (hT : elT P s = some E) (hx : ev L x = some (.slice a len cap)) : Qv P w0 n D L A (.call ⟨.builtin .cap, #[x], #[s]⟩) (.int .i64 (cap : Int)) := fun ac w hk _ _ _ _ _ _ => ⟨by
  simp [execOp, resolve, invoke, builtin, hk.ev hx, Builtin.cap_, run_underlying (elT_u hT), goInt], rfl⟩
theorem Ops.appz {x y : Operand} {T N E : TypeId} {kn : IntKind} {zs : List Value} {sz by_ m : Nat} (hT : elT P T = some E) (hN : iK P N = some kn) (hE : zsb P E = some (zs, sz, by_)) (hs0 : 0 < sz) (hx : ev L x = some (.slice none 0 0)) (hy : ev L y = some (.int .i64 (m : Int)))
    (hm : 0 < m) (hb : m * by_ ≤ 281474976710656) (hb' : m ≤ 140737488355328)
    (h : ∀ b cap, m ≤ cap → Ops P r ops Q w0 n D rest ((t, .slice (some ⟨b, 0, none⟩) m cap) :: L) (row (some ⟨b, 0, none⟩) cap E sz 0 [] :: A))
    (hg : gd ops L ⟨some t, .call ⟨.builtin .append, #[x, y], #[T, N]⟩, ty, pos, af, g⟩ = some true := by rfl) (ht : Nat.blt t n = true := by rfl) :
    Ops P r ops Q w0 n D (⟨some t, .call ⟨.builtin .append, #[x, y], #[T, N]⟩, ty, pos, af, g⟩ :: rest) L A :=
  Ops.val (α := {p : Nat × Nat // m ≤ p.2}) (v := fun p => .slice (some ⟨p.1.1, 0, none⟩) m p.1.2) (A' := fun p => row (some ⟨p.1.1, 0, none⟩) p.1.2 E sz 0 [] :: A) hg rfl ht rfl (fun ac w hk hs => by
    obtain ⟨i, z, hi, hz, hsz, hby, hzs, hzl⟩ := zsb_u hE
    have hr := Lib.run_append_nil_zeros (P := P) w T N ty E i z .i64 kn (elT_u hT) (iK_u hN) hi hz m hm (by omega) (by omega) (by rw [hby]; exact hb)
    refine ⟨⟨(w.heap.size, grownCap w m 0 E), grownCap_ge w m 0 E⟩, w.drew.alloc (.cells (Builtin.zeroCells z.cells m ++ Builtin.zeroCells z.cells (grownCap w m 0 E - m)) E), by simp only [execOp, resolve, invoke, builtin, hk.ev hx, hk.ev hy, List.map_toArray, List.map_cons, List.map_nil, Sem.run_bind, Sem.run_pure, Result.andThen_ok, hr], ?_⟩
    have hc : (Builtin.zeroCells z.cells m ++ Builtin.zeroCells z.cells (grownCap w m 0 E - m)).size = grownCap w m 0 E * sz := by
      have hge := grownCap_ge w m 0 E
      simp only [Builtin.zeroCells, Array.size_append, Array.size_map, Array.size_range, hzs]
      rw [← Nat.add_mul]; congr 1; omega
    have ho := World.ownsRow_made (w := w.drew) (base := 0) (e := E) (size := sz) _ (grownCap w m 0 E) (Nat.zero_le _) (grownCap_le_maxLen w m 0 E (by simp only [maxLen]; omega)) hc
    exact hs.drew.add (Below.alloc (Below.refl _ _) (Nat.le_refl _) _) (S := fun k => k = w.heap.size) ⟨ho, fun k => by simp [Value.ownBlock, eq_comm]⟩ (fun k hk => by subst hk; exact Nat.le_refl _)) (fun p => h p.1.1 p.1.2 p.2)
end
end Go.Proofs.YtilcdghliigngaaGreatDoorGl
namespace Go.Proofs.YtilcdghliigngaaGreatDoorGl
set_option linter.unusedVariables false
set_option linter.unusedSimpArgs false
open Go.RowKit
section
variable {P : Program} {r : Option Nat} {ops : Array Oper} {Q : Exit → Act → World → Prop} {w0 : World} {n : Nat} {D : List Deferred} {rest : List Oper} {L : Env} {A : List Atom}
variable {t : Nat} {ty : TypeId} {pos : String} {af : Array Edge} {g : Option (Nat × Bool)}
theorem sat_ext {w : World} {b cap sz m k : Nat} {E : TypeId} {cs : List Value} (h : Sat w0 w (row (some ⟨b, 0, none⟩) cap E sz m cs :: A)) (hk : m + k ≤ cap) :
    ∃ xs : List Value, xs.length = k * sz ∧ Sat w0 w (row (some ⟨b, 0, none⟩) cap E sz (m + k) (cs ++ xs) :: A) := by
  obtain ⟨S, hS, _, hgo⟩ := h.step
  obtain ⟨⟨hlen, hown⟩, hSb⟩ := hS
  rcases hown with ⟨h0, _⟩ | ⟨b', cap', cur, hv0, _, hh, h2, h3, h4, h5⟩
  · cases h0
  · cases hv0
    have hsz : (m + k) * sz ≤ cur.size := by rw [h4]; exact Nat.mul_le_mul_right _ hk
    refine ⟨(cur.toList.drop (m * sz)).take (k * sz), ?_, ?_⟩
    · rw [List.length_take, List.length_drop, Array.length_toList]
      rw [Nat.add_mul] at hsz; omega
    · refine hgo (S' := fun q => (Value.slice (some ⟨b, 0, none⟩) (m + k) cap).ownBlock = some q) ⟨⟨?_, .inr ⟨b, cap, cur, rfl, Nat.zero_le _, hh, hk, h3, h4, ?_⟩⟩, fun _ => Iff.rfl⟩ (fun q hq => .inl ((hSb q).2 (by simpa [Value.ownBlock] using hq))) rfl rfl rfl (Nat.le_refl _) (fun _ _ _ => rfl)
      · rw [List.length_append, hlen, List.length_take, List.length_drop, Array.length_toList]
        rw [Nat.add_mul] at hsz ⊢; omega
      · rw [← h5, Nat.add_mul, List.take_add]
theorem Ops.ext {b cap sz m k : Nat} {E : TypeId} {cs : List Value} {R : List Atom} (hp : Pull A (row (some ⟨b, 0, none⟩) cap E sz m cs) R) (hk : m + k ≤ cap)
    (h : ∀ xs, xs.length = k * sz → Ops P r ops Q w0 n D rest L (row (some ⟨b, 0, none⟩) cap E sz (m + k) (cs ++ xs) :: R)) : Ops P r ops Q w0 n D rest L A := fun ac w hkn hs => by
  obtain ⟨xs, hl, hs'⟩ := sat_ext (hs.pull hp) hk
  exact h xs hl ac w hkn hs'
theorem Ops.appzG {x y : Operand} {T N E : TypeId} {kn : IntKind} {zs olds : List Value} {sz by_ m k cap : Nat} {a : Option Addr} (hT : elT P T = some E) (hN : iK P N = some kn) (hE : zsb P E = some (zs, sz, by_)) (hs0 : 0 < sz) (hx : ev L x = some (.slice a m cap)) (hy : ev L y = some (.int .i64 (k : Int)))
    (hk : 0 < k) (hc : cap < m + k) (ho : ∀ w, Sat w0 w A → Ro w a olds) (hol : olds.length = m * sz) (hb : (m + k) * by_ ≤ 140737488355328) (hb' : m + k ≤ 70368744177664)
    (h : ∀ b cap', m + k ≤ cap' → Ops P r ops Q w0 n D rest ((t, .slice (some ⟨b, 0, none⟩) (m + k) cap') :: L) (row (some ⟨b, 0, none⟩) cap' E sz (m + k) (olds ++ rep k zs) :: A))
    (hg : gd ops L ⟨some t, .call ⟨.builtin .append, #[x, y], #[T, N]⟩, ty, pos, af, g⟩ = some true := by rfl) (ht : Nat.blt t n = true := by rfl) :
    Ops P r ops Q w0 n D (⟨some t, .call ⟨.builtin .append, #[x, y], #[T, N]⟩, ty, pos, af, g⟩ :: rest) L A :=
  Ops.val (α := {p : Nat × Nat // m + k ≤ p.2}) (v := fun p => .slice (some ⟨p.1.1, 0, none⟩) (m + k) p.1.2) (A' := fun p => row (some ⟨p.1.1, 0, none⟩) p.1.2 E sz (m + k) (olds ++ rep k zs) :: A) hg rfl ht rfl (fun ac w hkn hs => by
    obtain ⟨i, z, hi, hz, hsz, hby, hzs, hzl⟩ := zsb_u hE
    have hro := ho w.drew hs.drew
    have hf := run_first (P := P) (w := w.drew) (sl := m) (sc := cap) hro hol
    have hkb : k * by_ ≤ 281474976710656 := Nat.le_trans (Nat.mul_le_mul_right by_ (show k ≤ m + k by omega)) (by omega)
    have hr := Lib.run_append_grow_zeros (P := P) w T N ty E i z .i64 kn (elT_u hT) (iK_u hN) hi hz a m cap olds (by rw [hsz]; exact hf) k hk (by rw [hsz]; exact hs0) hc (by omega) (by rw [hby]; exact hkb)
      (by rw [hby]; exact growslice_fits hc hb)
    have hge : m + k ≤ grownCap w (m + k) cap E := grownCap_ge _ _ _ _
    refine ⟨⟨(w.heap.size, grownCap w (m + k) cap E), hge⟩, w.drew.alloc (.cells (olds.toArray ++ Builtin.zeroCells z.cells k ++ Builtin.zeroCells z.cells (grownCap w (m + k) cap E - (m + k))) E), by simp only [execOp, resolve, invoke, builtin, hkn.ev hx, hkn.ev hy, List.map_toArray, List.map_cons, List.map_nil, Sem.run_bind, Sem.run_pure, Result.andThen_ok, hr], ?_⟩
    have hzc : ∀ q, (Builtin.zeroCells z.cells q).toList = rep q zs := fun q => by rw [← hzl, ← rep_eq]; rfl
    have hzn : ∀ q, (Builtin.zeroCells z.cells q).size = q * sz := fun q => by rw [← Array.length_toList, hzc, rep_length, ← hzl, Array.length_toList, hzs]
    refine hs.drew.add (Below.alloc (Below.refl _ _) (Nat.le_refl _) _) (S := fun q => q = w.heap.size) ⟨⟨?_, .inr ⟨w.heap.size, _, _, rfl, Nat.zero_le _, heap_alloc_new _ _, hge, grownCap_le_maxLen _ _ _ _ (by simp only [maxLen]; omega), ?_, ?_⟩⟩, fun q => by simp [Value.ownBlock, eq_comm]⟩ (fun q hq => by subst hq; exact Nat.le_refl _)
    · rw [List.length_append, hol, rep_length, ← hzl, Array.length_toList, hzs, Nat.add_mul]
    · simp only [Array.size_append, List.size_toArray, hzn, hol]
      rw [← Nat.add_mul, ← Nat.add_mul]; congr 1; omega
    · have e : (olds ++ rep k zs).length = (m + k) * sz := by rw [List.length_append, hol, rep_length, ← hzl, Array.length_toList, hzs, Nat.add_mul]
      simp only [Array.toList_append, List.toList_toArray, hzc]
      rw [← e, List.take_left]) (fun p => h p.1.1 p.1.2 p.2)
theorem Ops.appzQ {x y : Operand} {T N E : TypeId} {kn : IntKind} {zs olds : List Value} {sz by_ m k q cap : Nat} {a : Option Addr} (hT : elT P T = some E) (hN : iK P N = some kn) (hE : zsb P E = some (zs, sz, by_)) (hs0 : 0 < sz) (hx : ev L x = some (.slice a m cap)) (hy : ev L y = some (.int .i64 (k : Int)))
    (hk : 0 < k) (hc : cap < m + k) (hq : m + k = q) (ho : ∀ w, Sat w0 w A → Ro w a olds) (hol : olds.length = m * sz) (hb : (m + k) * by_ ≤ 140737488355328) (hb' : m + k ≤ 70368744177664)
    (h : ∀ b cap', q ≤ cap' → Ops P r ops Q w0 n D rest ((t, .slice (some ⟨b, 0, none⟩) q cap') :: L) (row (some ⟨b, 0, none⟩) cap' E sz q (olds ++ rep k zs) :: A))
    (hg : gd ops L ⟨some t, .call ⟨.builtin .append, #[x, y], #[T, N]⟩, ty, pos, af, g⟩ = some true := by rfl) (ht : Nat.blt t n = true := by rfl) :
    Ops P r ops Q w0 n D (⟨some t, .call ⟨.builtin .append, #[x, y], #[T, N]⟩, ty, pos, af, g⟩ :: rest) L A := by
  subst hq
  exact Ops.appzG hT hN hE hs0 hx hy hk hc ho hol hb hb' h hg ht
theorem Ops.xt {k : FuncId} {xs : List Operand} {ats : Array TypeId} {vs : List Value} {v : Value} (hx : evs L xs = some vs)
    (hc : ∀ w, Sat w0 w A → (callFunc k vs.toArray).run P w = .ok (.value v) w)
    (h : Ops P r ops Q w0 n D rest ((t, v) :: L) A)
    (hg : gd ops L ⟨some t, .call ⟨.value (.func k), xs.toArray, ats⟩, ty, pos, af, g⟩ = some true := by rfl) (ht : Nat.blt t n = true := by rfl) :
    Ops P r ops Q w0 n D (⟨some t, .call ⟨.value (.func k), xs.toArray, ats⟩, ty, pos, af, g⟩ :: rest) L A :=
  Ops.same hg rfl ht rfl (fun a w hk hs => by
    have e : xs.toArray.map a.eval = vs.toArray := by rw [List.map_toArray, evs_ok hk hx]
    have e2 : a.eval (.func k) = .func (.func k) #[] #[] := rfl
    simp only [execOp, resolve, e, e2, Deferred.ofValue, Sem.run_bind, Sem.run_pure, Result.andThen_ok, invoke]
    simpa using hc w hs) h
theorem sat_shape {w : World} {b cap sz m : Nat} {E : TypeId} {cs : List Value} {R : List Atom} (h : Sat w0 w A) (hp : Pull A (row (some ⟨b, 0, none⟩) cap E sz m cs) R) : w.shape? b = some (E, cap * sz) ∧ ∀ o, w.frozen? ⟨b, o, none⟩ = false := by
  obtain ⟨hlen, hown⟩ := h.own hp
  rcases hown with ⟨h0, _⟩ | ⟨b', cap', cur, hv0, _, hh, h2, h3, h4, h5⟩
  · cases h0
  · cases hv0
    refine ⟨by simp [World.shape?, hh, h4], fun o => by simp [World.frozen?, hh]⟩
theorem sat_apart {w : World} {b b' cap cap' sz sz' m m' : Nat} {E E' : TypeId} {cs cs' : List Value} {R R' : List Atom} (h : Sat w0 w A) (hp : Pull A (row (some ⟨b, 0, none⟩) cap E sz m cs) R) (hq : Pull R (row (some ⟨b', 0, none⟩) cap' E' sz' m' cs') R') : b ≠ b' := by
  obtain ⟨_, T, ⟨S, U, ha, hA, hd, _⟩, _⟩ := h.pull hp
  obtain ⟨S', U', hb, _, _, ht'⟩ := Sats.pull hq hA
  rintro rfl
  exact hd b ((ha.2 b).2 rfl) ((ht' b).2 (.inl ((hb.2 b).2 rfl)))
theorem sat_rowle {w : World} {b cap sz m : Nat} {E : TypeId} {cs : List Value} {R : List Atom} (h : Sat w0 w A) (hp : Pull A (row (some ⟨b, 0, none⟩) cap E sz m cs) R) : m ≤ cap := by
  obtain ⟨hlen, hown⟩ := h.own hp
  rcases hown with ⟨h0, _⟩ | ⟨b', cap', cur, hv0, _, hh, h2, h3, h4, h5⟩
  · cases h0
  · cases hv0; exact h2
theorem Ops.rowle {b cap sz m : Nat} {E : TypeId} {cs : List Value} {R : List Atom} (hp : Pull A (row (some ⟨b, 0, none⟩) cap E sz m cs) R)
    (h : m ≤ cap → Ops P r ops Q w0 n D rest L A) : Ops P r ops Q w0 n D rest L A := fun ac w hkn hs => h (sat_rowle hs hp) ac w hkn hs
end
end Go.Proofs.YtilcdghliigngaaGreatDoorGl
namespace Go.Proofs.YtilcdghliigngaaGreatDoorGl
set_option linter.unusedVariables false
set_option linter.unusedSimpArgs false
open Go.RowKit
section
variable {P : Program} {r : Option Nat} {ops : Array Oper} {Q : Exit → Act → World → Prop} {w0 : World} {n : Nat} {D : List Deferred} {rest : List Oper} {L : Env} {A : List Atom}
theorem fm_pos {α : Type} {enc : α → List Value} {sz : Nat} (h : ∀ x, (enc x).length = sz + 1) {xs : List α} {k : Nat} {x : α} (hx : xs[k]? = some x) : 0 < (xs.flatMap enc).length := by
  have := (List.getElem?_eq_some_iff.1 hx).1
  rw [fm_length h]
  exact Nat.mul_pos (by omega) (Nat.succ_pos _)
end
end Go.Proofs.YtilcdghliigngaaGreatDoorGl
namespace Go.Proofs.YtilcdghliigngaaGreatDoorGl
set_option linter.unusedVariables false
set_option linter.unusedSimpArgs false
open Go.RowKit
def eB3 (ops : Array Oper) (listed : Array Bool) (i j k : Nat) : Bool := Region.ready .any ops listed == [i, j, k]
section
variable {P : Program} {r : Option Nat} {ops : Array Oper} {Q : Exit → Act → World → Prop} {w0 : World} {n : Nat} {D : List Deferred} {rest : List Oper} {L : Env} {A : List Atom}
variable {St : World → Prop} {K : Act → World → Prop} {f : Nat} {listed : Array Bool}
theorem Dr.e3 {i j k : Nat} {o o' o2 : Oper} (hi : ops[i]? = some o) (hj : ops[j]? = some o') (hk2 : ops[k]? = some o2) (hB : eB3 ops listed i j k = true)
    (h : Ops P r ops (NQ (fun a w => St w ∧ (Region.noSelect ops = true → plainB ops = true → wpK P r ops St K f (listed.setIfInBounds i true) a w))) w0 n D [o] L A)
    (h' : Ops P r ops (NQ (fun a w => St w ∧ (Region.noSelect ops = true → plainB ops = true → wpK P r ops St K f (listed.setIfInBounds j true) a w))) w0 n D [o'] L A)
    (h2 : Ops P r ops (NQ (fun a w => St w ∧ (Region.noSelect ops = true → plainB ops = true → wpK P r ops St K f (listed.setIfInBounds k true) a w))) w0 n D [o2] L A) : Dr P r ops St K w0 n D (f + 1) listed L A := by
  intro a w hk hs hst hsel hpl
  simp only [eB3, beq_iff_eq] at hB
  refine .inl ⟨fun h => (by rw [hB] at h; cases h), fun q hq => ?_⟩
  rw [hB] at hq
  have key : ∀ (i : Nat) (o : Oper), ops[i]? = some o → Ops P r ops (NQ (fun a w => St w ∧ (Region.noSelect ops = true → plainB ops = true → wpK P r ops St K f (listed.setIfInBounds i true) a w))) w0 n D [o] L A →
      wpOpIn (Fw r) 0 P ops (fun _ _ _ => False) i (fun a w => St w ∧ wpK P r ops St K f (listed.setIfInBounds i true) a w) a w := by
    intro i o hi h
    have h1 := h a w hk hs
    have h2 : wpOpIn (Fw r) 0 P ops (NQ (fun a w => St w ∧ (Region.noSelect ops = true → plainB ops = true → wpK P r ops St K f (listed.setIfInBounds i true) a w))) i
        (fun a w => St w ∧ (Region.noSelect ops = true → plainB ops = true → wpK P r ops St K f (listed.setIfInBounds i true) a w)) a w := by
      unfold wpListIn at h1
      unfold wpOpIn
      simp only [hi]
      exact h1
    exact oper_Q (fun a w (h : St w ∧ (Region.noSelect ops = true → plainB ops = true → wpK P r ops St K f (listed.setIfInBounds i true) a w)) => ⟨h.1, h.2 hsel hpl⟩) h2
  rcases List.mem_cons.1 hq with rfl | hq
  · exact key _ _ hi h
  · rcases List.mem_cons.1 hq with rfl | hq
    · exact key _ _ hj h'
    · obtain rfl := List.mem_singleton.1 hq
      exact key _ _ hk2 h2
theorem Cd.cutE {β : Type} {x y : Code} (L' : β → Env) (A' : β → List Atom) (hx : Cd P r x (Exit.then (fun a w => ∃ b, Kn n D (L' b) a ∧ Sat w0 w (A' b)) Q) w0 n D L A) (hy : ∀ b, Cd P r y Q w0 n D (L' b) (A' b)) : Cd P r (.seq x y) Q w0 n D L A := by
  intro a w hk hs
  refine wpIn_seq (wpIn_mono (hx a w hk hs) ?_)
  intro e a' w' hq
  cases e with
  | normal => obtain ⟨b, h1, h2⟩ := hq; exact hy b a' w' h1 h2
  | exit id => exact hq
  | goto l => exact hq
  | ret => exact hq
  | panic ch => exact hq
  | outgrown => exact hq
theorem Ops.cutEndE {β : Type} {L' : β → Env} {A' : β → List Atom} (b : β) (hq : Q .normal = fun a w => ∃ b, Kn n D (L' b) a ∧ Sat w0 w (A' b)) (hL : Sub (L' b) L) (hA : ∀ w, Sat w0 w A → Sat w0 w (A' b)) : Ops P r ops Q w0 n D [] L A :=
  Ops.nil (fun _ w hk hs => by rw [hq]; exact ⟨b, hk.sub hL, hA w hs⟩)
end
end Go.Proofs.YtilcdghliigngaaGreatDoorGl
namespace Go.Proofs.YtilcdghliigngaaGreatDoorGl
set_option linter.unusedVariables false
set_option linter.unusedSimpArgs false
open Go.RowKit
def findS (k : List Int) : List (List Int × Value) → Nat → Option (Nat × Value)
  | [], _ => none
  | (j, v) :: es, i => if k = j then some (i, v) else findS k es (i + 1)
def entsS (l : List MapEntry) (es : List (List Int × Value)) : Prop := l.map (fun e => (e.key, e.val)) = es.map (fun p => (Value.agg (ints p.1).toArray, p.2))
theorem intS_u {P : Program} {T : TypeId} {n : Nat} (h : intS P T = some n) : ∃ fs, P.underlying T = some (.struct fs) ∧ intFs P 0 fs.toList = true ∧ fs.size = n := by
  unfold intS at h
  cases hu : P.underlying T with
  | none => rw [hu] at h; cases h
  | some d =>
    rw [hu] at h
    cases d <;> try (cases h; done)
    rename_i fs
    simp only [] at h
    split at h
    · rename_i hc
      simp only [Bool.and_eq_true, Bool.not_eq_true'] at hc
      exact ⟨fs, rfl, hc.2, Option.some.inj h⟩
    · cases h
section
variable {P : Program}
theorem run_findAskS {T : TypeId} {k : List Int} {w : World} (hT : intS P T = some k.length) : ∀ (l : List MapEntry) (es : List (List Int × Value)) (i : Nat), entsS l es → (∀ p ∈ es, p.1.length = k.length) →
    (Instr.findAsking T (.agg (ints k).toArray) l i).run P w = .ok (findS k es i) w
  | [], [], i, _, _ => by simp [Instr.findAsking, findS]
  | [], _ :: _, _, h, _ => by simp [entsS] at h
  | _ :: _, [], _, h, _ => by simp [entsS] at h
  | e :: l, (j, v) :: es, i, h, hl => by
    simp only [entsS, List.map_cons, List.cons.injEq, Prod.mk.injEq] at h
    obtain ⟨⟨h1, h2⟩, h3⟩ := h
    have he := (run_eqS (P := P) (w := w) (vs := k) (us := j) hT (hl _ (.head _))).2
    have ih := run_findAskS (w := w) hT l es (i + 1) h3 (fun p hp => hl p (.tail _ hp))
    simp only [Instr.findAsking, Op.equal, Op.maxDepth, Sem.run_bind, h1, he, Result.andThen_ok, findS, h2]
    by_cases c : k = j
    · subst c; simp
    · have : (k == j) = false := by simp [c]
      simp only [this, Bool.false_eq_true, if_false, if_neg c, ih]
theorem run_findS {T : TypeId} {k : List Int} {w : World} {l : List MapEntry} {es : List (List Int × Value)} (hT : intS P T = some k.length) (h : entsS l es) (hl : ∀ p ∈ es, p.1.length = k.length) :
    (Instr.findKey T (.agg (ints k).toArray) l).run P w = .ok (findS k es 0) w := by
  obtain ⟨fs, hu, _, _⟩ := intS_u hT
  have ha := run_findAskS (w := w) hT l es 0 h hl
  simp only [Instr.findKey, Sem.run_bind, run_underlying hu, Result.andThen_ok]
  cases l with
  | nil =>
    cases es with
    | nil => simp [Instr.findNow, findS]
    | cons p es => simp [entsS] at h
  | cons e l => simpa [Instr.findNow, Instr.sameNow] using ha
theorem run_chkFs {e : Bool} {d : Nat} {cs : List Int} {w : World} : ∀ (fs : List Field) (i : Nat), intFs P i fs = true → i + fs.length = cs.length →
    (forIn (m := Sem) fs PUnit.unit fun f _ => do
      if f.name ≠ "_" then
        Instr.checkKey e (d + 1) f.type (← part f.type (ints cs).toArray f.offset)
        pure (ForInStep.yield PUnit.unit)
      else pure (ForInStep.yield PUnit.unit)).run P w = .ok PUnit.unit w
  | [], i, _, _ => by simp
  | f :: fs, i, h, hl => by
    simp only [intFs, Bool.and_eq_true, beq_iff_eq, bne_iff_ne, ne_eq] at h
    obtain ⟨⟨⟨⟨hn, ho⟩, hk⟩, ha⟩, hr⟩ := h
    obtain ⟨k, hk⟩ := Option.isSome_iff_exists.1 hk
    simp only [List.length_cons] at hl
    obtain ⟨a, hva⟩ : ∃ a, cs[i]? = some a := ⟨_, List.getElem?_eq_getElem (by omega)⟩
    have p1 : (part f.type (ints cs).toArray f.offset).run P w = .ok (.int .i64 a) w := run_part1 ha (by rw [ho]; simp [ints, hva])
    have p2 : (Instr.checkKey e (d + 1) f.type (.int .i64 a)).run P w = .ok () w := by
      unfold Instr.checkKey
      simp only [Sem.run_bind, run_underlying (iK_u hk), Result.andThen_ok]
      rfl
    have ih := run_chkFs (e := e) (d := d) (cs := cs) (w := w) fs (i + 1) hr (by omega)
    simp only [List.forIn_cons, ne_eq, hn, not_false_eq_true, if_true, Sem.run_bind, p1, p2, Result.andThen_ok, Sem.run_pure]
    exact ih
theorem run_checkS {T : TypeId} {k : List Int} {w : World} (hT : intS P T = some k.length) (e : Bool) : (Instr.checkKey e 10000 T (.agg (ints k).toArray)).run P w = .ok () w := by
  obtain ⟨fs, hu, hf, hz⟩ := intS_u hT
  rw [show (10000 : Nat) = 9998 + 1 + 1 from rfl]
  unfold Instr.checkKey
  have := run_chkFs (P := P) (e := e) (d := 9998) (cs := k) (w := w) fs.toList 0 hf (by simpa using hz)
  simp only [Sem.run_bind, run_underlying hu, Result.andThen_ok]
  rw [← Array.forIn_toList]
  simp at this ⊢
  rw [this]
  rfl
end
def RoM (w : World) (b : Nat) (es : List (List Int × Value)) : Prop := ∃ l c, w.heap[b]? = some (.map l c) ∧ entsS l.toList es
theorem RoM.later {w w' : World} {b : Nat} {es : List (List Int × Value)} (h : RoM w b es) (hb : Below w.heap.size w w') : RoM w' b es := by
  obtain ⟨l, c, h1, h2⟩ := h
  exact ⟨l, c, (hb.block b (Array.getElem?_eq_some_iff.1 h1).1).trans h1, h2⟩
def smap (b : Nat) (es : List (List Int × Value)) : Atom where
  P := fun w S => RoM w b es ∧ ∀ k, S k ↔ k = b
  loc := fun {w w' S} h hs => ⟨let ⟨l, c, h1, h2⟩ := h.1; ⟨l, c, (hs b ((h.2 b).2 rfl)).trans h1, h2⟩, h.2⟩
  lt := fun {w S k} h hk => by obtain ⟨⟨l, c, h1, _⟩, h2⟩ := h; rw [(h2 _).1 hk]; exact (Array.getElem?_eq_some_iff.1 h1).1
theorem Sat.roM {w0 w : World} {A A' : List Atom} {b : Nat} {es : List (List Int × Value)} (h : Sat w0 w A) (hp : Pull A (smap b es) A') : RoM w b es := by
  obtain ⟨S, hS⟩ := h.mem hp; exact hS.1
section
variable {P : Program} {r : Option Nat} {ops : Array Oper} {Q : Exit → Act → World → Prop} {w0 : World} {n : Nat} {D : List Deferred} {rest : List Oper} {L : Env} {A : List Atom}
variable {t : Nat} {ty : TypeId} {pos : String} {af : Array Edge} {g : Option (Nat × Bool)}
theorem Ops.mkmS {T : TypeId} (h : ∀ b, Ops P r ops Q w0 n D rest ((t, .map (some b)) :: L) (smap b [] :: A))
    (hg : gd ops L ⟨some t, .makeMap T none, ty, pos, af, g⟩ = some true := by rfl) (ht : Nat.blt t n = true := by rfl) :
    Ops P r ops Q w0 n D (⟨some t, .makeMap T none, ty, pos, af, g⟩ :: rest) L A :=
  Ops.val (v := fun b => .map (some b)) (A' := fun b => smap b [] :: A) hg rfl ht rfl (fun a w hk hs => by
    refine ⟨w.heap.size, w.alloc (.map #[] 0), by simp [execOp, Instr.makeMap, newObj, Sem.run], ?_⟩
    exact hs.add (Below.alloc (Below.refl _ _) (Nat.le_refl _) _) (S := fun k => k = w.heap.size) ⟨⟨_, _, heap_alloc_new w _, rfl⟩, fun _ => Iff.rfl⟩ (fun _ hk => by omega)) h
theorem q_lookS {T K E : TypeId} {x y : Operand} {b : Nat} {v u : Value} (k : List Int) {es : List (List Int × Value)} (hT : mpT P T = some (K, E)) (hK : intS P K = some k.length) (hx : ev L x = some (.map (some b))) (hy : ev L y = some u) (hu : u = .agg (ints k).toArray)
    (hw : ∀ w, Sat w0 w A → RoM w b es) (hl : ∀ p ∈ es, p.1.length = k.length) (hv : ∀ w, (findS k es 0).map (·.2) = some v ∨ findS k es 0 = none ∧ (zeroValue E).run P w = .ok v w) : Qv P w0 n D L A (.lookup T x y false) v := fun a w hk hs' _ _ _ _ _ => ⟨by
    subst hu
    obtain ⟨l, c, h1, h2⟩ := hw w hs'
    have hv := hv w
    simp only [execOp, hk.ev hx, hk.ev hy, Instr.lookup, Sem.run_bind, run_underlying (mpT_u hT), Result.andThen_ok, MapKept.run_getObj_map h1, Sem.run_pure, run_checkS hK, run_findS hK h2 hl] at hv ⊢
    cases hf : findS k es 0 with
    | none =>
      rw [hf] at hv
      rcases hv with h3 | ⟨_, h3⟩
      · cases h3
      · simp [h3]
    | some p =>
      rw [hf] at hv
      rcases hv with h3 | ⟨h3, _⟩
      · simp only [Option.map_some, Option.some.injEq] at h3
        subst h3
        simp
      · simp at h3, rfl⟩
theorem Ops.mpuS {T K E : TypeId} {x y z : Operand} {b : Nat} {v u : Value} (k : List Int) {es : List (List Int × Value)} {A' : List Atom} (hT : mpT P T = some (K, E)) (hK : intS P K = some k.length) (hx : ev L x = some (.map (some b))) (hy : ev L y = some u) (hku : u = .agg (ints k).toArray) (hz : ev L z = some v)
    (hl : ∀ p ∈ es, p.1.length = k.length) (hn : findS k es 0 = none) (hu : Upd A (smap b es) (smap b (es ++ [(k, v)])) A') (h : Ops P r ops Q w0 n D rest L A')
    (hg : gd ops L ⟨none, .mapUpdate T x y z, ty, pos, af, g⟩ = some true := by rfl) :
    Ops P r ops Q w0 n D (⟨none, .mapUpdate T x y z, ty, pos, af, g⟩ :: rest) L A :=
  Ops.act (α := Unit) (A' := fun _ => A') hg rfl rfl (fun a w hk hs => by
    subst hku
    obtain ⟨R, hp, hp'⟩ := hu.pull
    obtain ⟨S, hS, _, hgo⟩ := (hs.pull hp).step
    obtain ⟨⟨l, c, hb, he⟩, hSb⟩ := hS
    have hr : (Instr.mapUpdate T (.map (some b)) (.agg (ints k).toArray) v).run P w = .ok () { w with heap := w.heap.setIfInBounds b (.map (l.push { key := .agg (ints k).toArray, val := v, born := c }) (c + 1)) } := by
      simp only [Instr.mapUpdate, Sem.run_bind, run_underlying (mpT_u hT), Result.andThen_ok, MapKept.run_getObj_map hb, run_checkS hK, run_findS hK he hl, hn]
      exact MapKept.run_setObj_map _ hb
    refine ⟨(), { w with heap := w.heap.setIfInBounds b (.map (l.push { key := .agg (ints k).toArray, val := v, born := c }) (c + 1)) }, by simp only [execOp, hk.ev hx, hk.ev hy, hk.ev hz, Sem.run_bind, hr, Result.andThen_ok, Sem.run_pure], Sat.push ?_ hp'⟩
    obtain ⟨h1, h2⟩ := MapKept.heap_set (o' := .map (l.push { key := .agg (ints k).toArray, val := v, born := c }) (c + 1)) hb
    refine hgo (S' := fun k => k = b) ⟨⟨_, _, h1, ?_⟩, fun _ => Iff.rfl⟩ (fun k hk => .inl ((hSb k).2 hk)) rfl rfl rfl (by simp) (fun k _ hk => h2 k (fun e => hk ((hSb k).2 e)))
    unfold entsS at *
    simp [he]) (fun _ => h)
end
end Go.Proofs.YtilcdghliigngaaGreatDoorGl
namespace Go.Proofs.YtilcdghliigngaaGreatDoorGl
open Go.RowKit
set_option linter.unusedVariables false
set_option linter.unusedSimpArgs false
structure OMap (w : World) (b : Nat) (es : List (Int × Value)) : Prop where
  ex : ∃ l c, w.heap[b]? = some (.map l c) ∧ ents l.toList es ∧ (∀ x ∈ l.toList, x.born < c) ∧ (l.toList.map (·.born)).Nodup
def omap (b : Nat) (es : List (Int × Value)) : Atom where
  P := fun w S => OMap w b es ∧ ∀ k, S k ↔ k = b
  loc := fun {w w' S} h hs => ⟨⟨let ⟨l, c, h1, h2⟩ := h.1.ex; ⟨l, c, (hs b ((h.2 b).2 rfl)).trans h1, h2⟩⟩, h.2⟩
  lt := fun {w S k} h hk => by obtain ⟨⟨l, c, h1, _⟩⟩ := h.1; rw [(h.2 _).1 hk]; exact (Array.getElem?_eq_some_iff.1 h1).1
def emap (b : Nat) : Atom where
  P := fun w S => (∃ c, w.heap[b]? = some (.map #[] c)) ∧ ∀ k, S k ↔ k = b
  loc := fun {w w' S} h hs => ⟨let ⟨c, h1⟩ := h.1; ⟨c, (hs b ((h.2 b).2 rfl)).trans h1⟩, h.2⟩
  lt := fun {w S k} h hk => by obtain ⟨⟨c, h1⟩, h2⟩ := h; rw [(h2 _).1 hk]; exact (Array.getElem?_eq_some_iff.1 h1).1
section
variable {P : Program} {r : Option Nat} {ops : Array Oper} {Q : Exit → Act → World → Prop} {w0 : World} {n : Nat} {D : List Deferred} {rest : List Oper} {L : Env} {A : List Atom}
variable {t : Nat} {ty : TypeId} {pos : String} {af : Array Edge} {g : Option (Nat × Bool)}
theorem Ops.mkmO {T : TypeId} (h : ∀ b, Ops P r ops Q w0 n D rest ((t, .map (some b)) :: L) (omap b [] :: A))
    (hg : gd ops L ⟨some t, .makeMap T none, ty, pos, af, g⟩ = some true := by rfl) (ht : Nat.blt t n = true := by rfl) :
    Ops P r ops Q w0 n D (⟨some t, .makeMap T none, ty, pos, af, g⟩ :: rest) L A :=
  Ops.val (v := fun b => .map (some b)) (A' := fun b => omap b [] :: A) hg rfl ht rfl (fun a w hk hs => by
    refine ⟨w.heap.size, w.alloc (.map #[] 0), by simp [execOp, Instr.makeMap, newObj, Sem.run], ?_⟩
    exact hs.add (Below.alloc (Below.refl _ _) (Nat.le_refl _) _) (S := fun k => k = w.heap.size) ⟨⟨_, _, heap_alloc_new w _, rfl, by simp, by simp⟩, fun _ => Iff.rfl⟩ (fun _ hk => by omega)) h
theorem Ops.mkmE {T : TypeId} (h : ∀ b, Ops P r ops Q w0 n D rest ((t, .map (some b)) :: L) (emap b :: A))
    (hg : gd ops L ⟨some t, .makeMap T none, ty, pos, af, g⟩ = some true := by rfl) (ht : Nat.blt t n = true := by rfl) :
    Ops P r ops Q w0 n D (⟨some t, .makeMap T none, ty, pos, af, g⟩ :: rest) L A :=
  Ops.val (v := fun b => .map (some b)) (A' := fun b => emap b :: A) hg rfl ht rfl (fun a w hk hs => by
    refine ⟨w.heap.size, w.alloc (.map #[] 0), by simp [execOp, Instr.makeMap, newObj, Sem.run], ?_⟩
    exact hs.add (Below.alloc (Below.refl _ _) (Nat.le_refl _) _) (S := fun k => k = w.heap.size) ⟨⟨_, heap_alloc_new w _⟩, fun _ => Iff.rfl⟩ (fun _ hk => by omega)) h
theorem run_mapNewO {w : World} {T K E : TypeId} {kd : IntKind} {b c : Nat} {l : Array MapEntry} {es : List (Int × Value)} {k : Int} {v : Value} (hT : mpT P T = some (K, E)) (hK : iK P K = some kd) (hb : w.heap[b]? = some (.map l c)) (he : ents l.toList es) (hn : findI k es 0 = none) :
    (Instr.mapUpdate T (.map (some b)) (.int .i64 k) v).run P w = .ok () { w with heap := w.heap.setIfInBounds b (.map (l.push { key := .int .i64 k, val := v, born := c }) (c + 1)) } := by
  simp only [Instr.mapUpdate, Sem.run_bind, run_underlying (mpT_u hT), Result.andThen_ok, MapKept.run_getObj_map hb, run_checkInt hK, run_findInt hK he, hn]
  exact MapKept.run_setObj_map _ hb
theorem omap_push {w : World} {b c : Nat} {l : Array MapEntry} {es : List (Int × Value)} {k : Int} {v : Value} (hb : w.heap[b]? = some (.map l c)) (he : ents l.toList es) (h3 : ∀ x ∈ l.toList, x.born < c) (h4 : (l.toList.map (·.born)).Nodup) :
    OMap { w with heap := w.heap.setIfInBounds b (.map (l.push { key := .int .i64 k, val := v, born := c }) (c + 1)) } b (es ++ [(k, v)]) := by
  obtain ⟨h1, h2⟩ := MapKept.heap_set (o' := .map (l.push { key := .int .i64 k, val := v, born := c }) (c + 1)) hb
  refine ⟨_, _, h1, ?_, ?_, ?_⟩
  · unfold ents at *
    simp [he]
  · intro x hx
    simp only [Array.toList_push, List.mem_append, List.mem_singleton] at hx
    rcases hx with hx | rfl
    · have := h3 x hx; omega
    · exact Nat.lt_succ_self _
  · simp only [Array.toList_push, List.map_append, List.map_cons, List.map_nil]
    refine List.nodup_append.2 ⟨h4, by simp, fun a ha d hd e => ?_⟩
    obtain ⟨x, hx, rfl⟩ := List.mem_map.1 ha
    have := h3 x hx
    obtain rfl := List.mem_singleton.1 hd
    omega
theorem Ops.insO {T K E : TypeId} {kd : IntKind} {x y z : Operand} {b : Nat} {k : Int} {v : Value} {es : List (Int × Value)} {A' : List Atom} (hT : mpT P T = some (K, E)) (hK : iK P K = some kd) (hx : ev L x = some (.map (some b))) (hy : ev L y = some (.int .i64 k)) (hz : ev L z = some v)
    (hn : findI k es 0 = none) (hu : Upd A (omap b es) (omap b (es ++ [(k, v)])) A') (h : Ops P r ops Q w0 n D rest L A')
    (hg : gd ops L ⟨none, .insert T x y z, ty, pos, af, g⟩ = some true := by rfl) :
    Ops P r ops Q w0 n D (⟨none, .insert T x y z, ty, pos, af, g⟩ :: rest) L A :=
  Ops.act (α := Unit) (A' := fun _ => A') hg rfl rfl (fun a w hk hs => by
    obtain ⟨R, hp, hp'⟩ := hu.pull
    obtain ⟨S, hS, _, hgo⟩ := (hs.pull hp).step
    obtain ⟨⟨l, c, hb, he, h3, h4⟩, hSb⟩ := hS
    have hr := run_mapNewO (P := P) (v := v) hT hK hb he hn
    refine ⟨(), { w with heap := w.heap.setIfInBounds b (.map (l.push { key := .int .i64 k, val := v, born := c }) (c + 1)) }, by simp only [execOp, hk.ev hx, hk.ev hy, hk.ev hz, Sem.run_bind, hr, Result.andThen_ok, Sem.run_pure], Sat.push ?_ hp'⟩
    obtain ⟨h1, h2⟩ := MapKept.heap_set (o' := .map (l.push { key := .int .i64 k, val := v, born := c }) (c + 1)) hb
    exact hgo (S' := fun k => k = b) ⟨omap_push hb he h3 h4, fun _ => Iff.rfl⟩ (fun k hk => .inl ((hSb k).2 hk)) rfl rfl rfl (by simp) (fun k _ hk => h2 k (fun e => hk ((hSb k).2 e)))) (fun _ => h)
theorem q_lookO {T K E : TypeId} {kd : IntKind} {x y : Operand} {b : Nat} {k : Int} {es : List (Int × Value)} {v : Value} {ok : Bool} {A' : List Atom} (hT : mpT P T = some (K, E)) (hK : iK P K = some kd) (hx : ev L x = some (.map (some b))) (hy : ev L y = some (.int .i64 k))
    (hp : Pull A (omap b es) A') (hv : looki es k = some v ∧ ok = true ∨ looki es k = none ∧ ok = false ∧ ∀ w, (zeroValue E).run P w = .ok v w) : Qv P w0 n D L A (.lookup T x y true) (.tuple [v, .bool ok].toArray) := fun a w hk hs' _ _ _ _ _ => ⟨by
    obtain ⟨S, ⟨⟨l, c, h1, h2, _, _⟩, _⟩⟩ := hs'.mem hp
    simp only [execOp, hk.ev hx, hk.ev hy, Instr.lookup, Sem.run_bind, run_underlying (mpT_u hT), Result.andThen_ok, MapKept.run_getObj_map h1, Sem.run_pure, run_checkInt hK, run_findInt hK h2, looki] at hv ⊢
    cases hf : findI k es 0 with
    | none =>
      rw [hf] at hv
      rcases hv with ⟨h3, _⟩ | ⟨_, rfl, h3⟩
      · cases h3
      · simp [h3]
    | some p =>
      rw [hf] at hv
      rcases hv with ⟨h3, rfl⟩ | ⟨h3, _⟩
      · simp only [Option.map_some, Option.some.injEq] at h3
        subst h3
        simp
      · simp at h3, rfl⟩
theorem run_checkStr {w : World} {kt : TypeId} {s : ByteArray} (hd : P.underlying kt = some .string) (e : Bool) : (Instr.checkKey e 10000 kt (.string s)).run P w = .ok () w := by
  rw [show (10000 : Nat) = 9999 + 1 from rfl]
  unfold Instr.checkKey
  simp only [Sem.run_bind, run_underlying hd, Result.andThen_ok]
  rfl
def sK (P : Program) (t : TypeId) : Bool := match P.underlying t with | some .string => true | _ => false
theorem sK_u {t : TypeId} (h : sK P t = true) : P.underlying t = some .string := by
  unfold sK at h
  cases hu : P.underlying t with
  | none => rw [hu] at h; cases h
  | some d => rw [hu] at h; cases d <;> first | rfl | cases h
theorem q_lookE {T K E : TypeId} {x y : Operand} {b : Nat} {s : ByteArray} {v : Value} {A' : List Atom} (hT : mpT P T = some (K, E)) (hK : sK P K = true) (hx : ev L x = some (.map (some b))) (hy : ev L y = some (.string s))
    (hp : Pull A (emap b) A') (hz : ∀ w, (zeroValue E).run P w = .ok v w) : Qv P w0 n D L A (.lookup T x y false) v := fun a w hk hs' _ _ _ _ _ => ⟨by
    obtain ⟨S, ⟨⟨c, h1⟩, _⟩⟩ := hs'.mem hp
    have hf : (Instr.findKey K (.string s) []).run P w = .ok none w := by simp [Instr.findKey, run_underlying (sK_u hK), Instr.findNow]
    simp only [execOp, hk.ev hx, hk.ev hy, Instr.lookup, Sem.run_bind, run_underlying (mpT_u hT), Result.andThen_ok, MapKept.run_getObj_map h1, Sem.run_pure, run_checkStr (sK_u hK), hf, hz]
    simp, rfl⟩
theorem Ops.mpuE {T K E : TypeId} {x y z : Operand} {b : Nat} {s : ByteArray} {v : Value} {A' : List Atom} (hT : mpT P T = some (K, E)) (hK : sK P K = true) (hx : ev L x = some (.map (some b))) (hy : ev L y = some (.string s)) (hz : ev L z = some v)
    (hp : Pull A (emap b) A') (h : Ops P r ops Q w0 n D rest L A')
    (hg : gd ops L ⟨none, .mapUpdate T x y z, ty, pos, af, g⟩ = some true := by rfl) :
    Ops P r ops Q w0 n D (⟨none, .mapUpdate T x y z, ty, pos, af, g⟩ :: rest) L A :=
  Ops.act (α := Unit) (A' := fun _ => A') hg rfl rfl (fun a w hk hs => by
    obtain ⟨S, hS, _, hgo⟩ := (hs.pull hp).step
    obtain ⟨⟨c, hb⟩, hSb⟩ := hS
    have hf : (Instr.findKey K (.string s) []).run P w = .ok none w := by simp [Instr.findKey, run_underlying (sK_u hK), Instr.findNow]
    have hr : (Instr.mapUpdate T (.map (some b)) (.string s) v).run P w = .ok () { w with heap := w.heap.setIfInBounds b (.map ((#[] : Array MapEntry).push { key := .string s, val := v, born := c }) (c + 1)) } := by
      simp only [Instr.mapUpdate, Sem.run_bind, run_underlying (mpT_u hT), Result.andThen_ok, MapKept.run_getObj_map hb, run_checkStr (sK_u hK), hf]
      exact MapKept.run_setObj_map _ hb
    refine ⟨(), { w with heap := w.heap.setIfInBounds b (.map ((#[] : Array MapEntry).push { key := .string s, val := v, born := c }) (c + 1)) }, by simp only [execOp, hk.ev hx, hk.ev hy, hk.ev hz, Sem.run_bind, hr, Result.andThen_ok, Sem.run_pure], ?_⟩
    obtain ⟨h1, h2⟩ := MapKept.heap_set (o' := .map ((#[] : Array MapEntry).push { key := .string s, val := v, born := c }) (c + 1)) hb
    have := hgo (w' := { w with heap := w.heap.setIfInBounds b (.map ((#[] : Array MapEntry).push { key := .string s, val := v, born := c }) (c + 1)) }) (a' := junk b) (S' := fun k => k = b) ⟨by rw [h1]; rfl, fun _ => Iff.rfl⟩ (fun k hk => .inl ((hSb k).2 hk)) rfl rfl rfl (by simp) (fun k _ hk => h2 k (fun e => hk ((hSb k).2 e)))
    exact this.drop) (fun _ => h)
theorem q_pNil {T tz : TypeId} {x y : Operand} {p : Option Addr} (hT : P.underlying T = some (.pointer (P.pointee T))) (hx : ev L x = some (.pointer p)) (hy : ev L y = some (.pointer none)) : Qv P w0 n D L A (.binOp .eql T x y tz) (.bool p.isNone) := fun a w hk _ _ _ _ _ _ => ⟨by
    have h2 : (eqGuard .eql T x y (.pointer p) (.pointer none)).run P w = .ok () w := by simp [eqGuard]
    simp only [execOp, hk.ev hx, hk.ev hy, Sem.run_bind, h2, Result.andThen_ok, run_eql_pointer_nil w T p hT, Sem.run_pure], rfl⟩
theorem q_pNn {T tz : TypeId} {x y : Operand} {p : Option Addr} (hT : P.underlying T = some (.pointer (P.pointee T))) (hx : ev L x = some (.pointer p)) (hy : ev L y = some (.pointer none)) : Qv P w0 n D L A (.binOp .neq T x y tz) (.bool (!p.isNone)) := fun a w hk _ _ _ _ _ _ => ⟨by
    have h2 : (eqGuard .neq T x y (.pointer p) (.pointer none)).run P w = .ok () w := by simp [eqGuard]
    simp only [execOp, hk.ev hx, hk.ev hy, Sem.run_bind, h2, Result.andThen_ok, run_neq_pointer_nil w T p hT, Sem.run_pure], rfl⟩
theorem q_eqB {T tz : TypeId} {x y : Operand} {p q : Bool} (hT : P.underlying T = some .bool) (hx : ev L x = some (.bool p)) (hy : ev L y = some (.bool q)) : Qv P w0 n D L A (.binOp .eql T x y tz) (.bool (p == q)) := fun a w hk _ _ _ _ _ _ => ⟨by
    have h2 : (eqGuard .eql T x y (.bool p) (.bool q)).run P w = .ok () w := by simp [eqGuard]
    simp only [execOp, hk.ev hx, hk.ev hy, Sem.run_bind, h2, Result.andThen_ok, run_eql_bool w T p q hT, Sem.run_pure], rfl⟩
theorem q_ixV {T : TypeId} {x y : Operand} {m k : Nat} {e : TypeId} {cs : List Value} {v : Value} {kd : IntKind} (hT : P.underlying T = some (.array m e)) (hz : szT P e = some 1) (he : isA P e = some false) (hx : ev L x = some (.agg cs.toArray)) (hy : ev L y = some (.int kd (k : Int))) (hk : k < m) (hv : cs[k]? = some v) :
    Qv P w0 n D L A (.index T x y) v := fun a w hk' _ _ _ _ _ _ => ⟨by
    have h1 : (0 ≤ (k : Int) ∧ (k : Int) < (m : Int)) := by omega
    have h2 : (part e cs.toArray (k * 1)).run P w = .ok v w := run_part1 he (by rw [Nat.mul_one]; simpa using hv)
    simp only [execOp, hk'.ev hx, hk'.ev hy, Instr.index, asIntOf, Sem.run_bind, Sem.run_pure, run_underlying hT, Result.andThen_ok, if_pos h1, run_sizeOf hz, Int.toNat_natCast, h2], rfl⟩
theorem q_ixS {T : TypeId} {x y : Operand} {s : ByteArray} {k : Nat} {kd : IntKind} (hT : P.underlying T = some .string) (hx : ev L x = some (.string s)) (hy : ev L y = some (.int kd (k : Int))) (hk : k < s.size) :
    Qv P w0 n D L A (.index T x y) (.int .u8 ((s[k]'hk).toNat : Int)) := fun a w hk' _ _ _ _ _ _ => ⟨by
    simp [execOp, hk'.ev hx, hk'.ev hy, Instr.index, asIntOf, run_underlying hT, hk], rfl⟩
end
end Go.Proofs.YtilcdghliigngaaGreatDoorGl
namespace Go.Proofs.YtilcdghliigngaaGreatDoorGl
open Go.RowKit
set_option linter.unusedVariables false
set_option linter.unusedSimpArgs false
def bytesV (l : List UInt8) : List Value := l.map fun b => Value.int .u8 (b.toNat : Int)
theorem bytesV_app (l m : List UInt8) : bytesV (l ++ m) = bytesV l ++ bytesV m := by simp [bytesV]
theorem strCells_eq (s : ByteArray) : Lib.strCells s = bytesV s.data.toList := rfl
section
variable {P : Program} {r : Option Nat} {ops : Array Oper} {Q : Exit → Act → World → Prop} {w0 : World} {n : Nat} {D : List Deferred} {rest : List Oper} {L : Env} {A : List Atom}
variable {t : Nat} {ty : TypeId} {pos : String} {af : Array Edge} {g : Option (Nat × Bool)}
def uB (P : Program) (E : TypeId) : Bool := match P.info? E with
  | some i => match i.zero with
    | some (.int .u8 z) => z == 0 && i.size == 1 && i.bytes == 1
    | _ => false
  | none => false
theorem uB_u {E : TypeId} (h : uB P E = true) : ∃ i, P.info? E = some i ∧ i.zero = some (.int .u8 0) ∧ i.size = 1 ∧ i.bytes = 1 := by
  unfold uB at h
  cases hi : P.info? E with
  | none => rw [hi] at h; cases h
  | some i =>
    rw [hi] at h
    simp only [] at h
    split at h
    · rename_i z hz
      simp only [Bool.and_eq_true, beq_iff_eq] at h
      exact ⟨i, rfl, by rw [hz, h.1.1], h.1.2, h.2⟩
    · cases h
theorem apps_at {w : World} {T U E ty : TypeId} {m cap : Nat} {a : Option Addr} {cs : List Value} {s : ByteArray} (hT : elT P T = some E) (hU : sK P U = true) (hE : uB P E = true) (hown : w.ownsRow 0 E 1 (.slice a m cap) m cs) (hb : m + s.size ≤ 1000000) :
    ∃ a' c' w', (Builtin.append_ #[T, U] ty #[.slice a m cap, .string s]).run P w = .ok (.slice a' (m + s.size) c') w' ∧ w'.ownsRow 0 E 1 (.slice a' (m + s.size) c') (m + s.size) (cs ++ Lib.strCells s) ∧ w.grownBy w' (Value.slice a m cap).ownBlock ∧
      (∀ q, (Value.slice a' (m + s.size) c').ownBlock = some q → (Value.slice a m cap).ownBlock = some q ∨ w.heap.size ≤ q) := by
  obtain ⟨i, hi, hz, hsz, hby⟩ := uB_u hE
  have hm : m + s.size ≤ maxLen := by simp only [maxLen]; omega
  rcases hown.2 with ⟨hv, h0⟩ | ⟨g, cp, cur, hv, _, hg, hnc, hcm, hcs, htake⟩
  · cases hv
    have hc0 : cs = [] := List.eq_nil_of_length_eq_zero (by simpa using hown.1)
    subst hc0
    obtain ⟨v', w', hr, ho, hgr, _⟩ := Lib.run_append_own_string (P := P) (w := w) w.heap.size T U ty E i (elT_u hT) (sK_u hU) hi hz hsz hby (.slice none 0 0) 0 [] (World.ownsRow_nil w w.heap.size E 1) s hm (by omega) (Nat.le_refl _)
    obtain ⟨v2, w2, hr2, ho2, hgr2, _⟩ := Lib.run_append_own_string (P := P) (w := w) 0 T U ty E i (elT_u hT) (sK_u hU) hi hz hsz hby (.slice none 0 0) 0 [] hown s hm (by omega) (Nat.zero_le _)
    have e := hr.symm.trans hr2
    cases e
    rcases ho.2 with ⟨hv2, h00⟩ | ⟨b2, c2, cur2, hv2, hle, _⟩
    · subst hv2
      refine ⟨none, 0, w', by rw [h00]; exact hr, by rw [h00]; rw [h00] at ho2; exact ho2, hgr, fun q hq => by cases hq⟩
    · subst hv2
      refine ⟨_, _, w', hr, ho2, hgr, fun q hq => ?_⟩
      simp only [Value.ownBlock, Option.some.injEq] at hq
      right; omega
  · cases hv
    have hxl : cs.length = m := by simpa using hown.1
    obtain ⟨v', w', hr, ho, hgr, _⟩ := Lib.run_append_own_string (P := P) (w := w) 0 T U ty E i (elT_u hT) (sK_u hU) hi hz hsz hby (.slice (some ⟨g, 0, none⟩) m cap) m cs hown s hm (by omega) (Nat.zero_le _)
    by_cases hroom : m + s.size ≤ cap
    · have hcs' : cur.size = cap := by simpa using hcs
      have h2 := Lib.run_append_room_string (P := P) w T U ty E i (elT_u hT) (sK_u hU) hi hsz g m cap cur hg s hroom (by omega)
      have e := hr.symm.trans h2
      cases e
      exact ⟨_, _, _, hr, ho, hgr, fun q hq => .inl hq⟩
    · have holds : ∀ j u, cs[j]? = some u → w.cell? ((⟨g, 0, none⟩ : Addr).add j) = some u := hown.cells (g := g) rfl
      have h2 := Lib.run_append_grow_string (P := P) w T U ty E i (.int .u8 0) (elT_u hT) (sK_u hU) hi hz ⟨g, 0, none⟩ m cap cs (by rw [hsz]; simpa using hxl) holds s (by omega) (by omega) (by rw [hby]; exact growslice_fits (by omega) (by omega))
      have e := hr.symm.trans h2
      cases e
      refine ⟨_, _, _, hr, ho, hgr, fun q hq => .inr ?_⟩
      simp only [Value.ownBlock, Option.some.injEq] at hq
      omega
theorem Ops.apps {x y : Operand} {T U E : TypeId} {cs : List Value} {cap m : Nat} {a : Option Addr} {s : ByteArray} {A' : Option Addr → Nat → List Atom} (hT : elT P T = some E) (hU : sK P U = true) (hE : uB P E = true)
    (hx : ev L x = some (.slice a m cap)) (hy : ev L y = some (.string s)) (hu : ∀ a' c', Upd A (row a cap E 1 m cs) (row a' c' E 1 (m + s.size) (cs ++ bytesV s.data.toList)) (A' a' c')) (hb : m + s.size ≤ 1000000)
    (h : ∀ a' c', Ops P r ops Q w0 n D rest ((t, .slice a' (m + s.size) c') :: L) (A' a' c'))
    (hg : gd ops L ⟨some t, .call ⟨.builtin .append, #[x, y], #[T, U]⟩, ty, pos, af, g⟩ = some true := by rfl) (ht : Nat.blt t n = true := by rfl) :
    Ops P r ops Q w0 n D (⟨some t, .call ⟨.builtin .append, #[x, y], #[T, U]⟩, ty, pos, af, g⟩ :: rest) L A :=
  Ops.val (α := Option Addr × Nat) (v := fun p => .slice p.1 (m + s.size) p.2) (A' := fun p => A' p.1 p.2) hg rfl ht rfl (fun ac w hk hs => by
    obtain ⟨R, hp, _⟩ := (hu a cap).pull
    obtain ⟨a', c', w', hr, ho, hgr, hat⟩ := apps_at (P := P) (ty := ty) (s := s) hT hU hE (hs.own hp) hb
    obtain ⟨R', hp', hq'⟩ := (hu a' c').pull
    obtain ⟨S, hS, _, hgo⟩ := (hs.pull hp').step
    refine ⟨(a', c'), w', by simp only [execOp, resolve, invoke, builtin, hk.ev hx, hk.ev hy, List.map_toArray, List.map_cons, List.map_nil, Sem.run_bind, Sem.run_pure, Result.andThen_ok, hr], Sat.push ?_ hq'⟩
    rw [← strCells_eq]
    exact hgo (S' := fun q => (Value.slice a' (m + s.size) c').ownBlock = some q) ⟨ho, fun _ => Iff.rfl⟩ (fun q hq => (hat q hq).imp (fun h => (hS.2 q).2 h) id) hgr.os hgr.tape hgr.output hgr.size (fun q hlt hq => hgr.block q hlt (fun e => hq ((hS.2 q).2 e.symm)))) (fun p => h p.1 p.2)
theorem q_b2s {S D' E : TypeId} {x : Operand} {b cap : Nat} {l : List UInt8} {A' : List Atom} (hS : elT P S = some E) (hE : iK P E = some .u8) (hD : sK P D' = true) (hx : ev L x = some (.slice (some ⟨b, 0, none⟩) l.length cap)) (hp : Pull A (row (some ⟨b, 0, none⟩) cap E 1 l.length (bytesV l)) A') :
    Qv P w0 n D L A (.convert S D' x) (.string ⟨l.toArray⟩) := fun a w hk hs' _ _ _ _ _ => ⟨by
    have := run_convert_bytes_back (P := P) w S D' E ⟨b, 0, none⟩ cap l (elT_u hS) (iK_u hE) (sK_u hD) (fun j hj => by
      rw [add_at, Nat.zero_add]
      exact Sat.atO hp (by simp [bytesV, hj]) hs')
    simp only [execOp, hk.ev hx, Sem.run_bind, this, Result.andThen_ok, Sem.run_pure], rfl⟩
theorem q_cutS {T : TypeId} {x y z : Operand} {s : ByteArray} {lo hi : Nat} {k1 k2 : IntKind} (hT : sK P T = true) (hx : ev L x = some (.string s)) (hy : ev L y = some (.int k1 (lo : Int))) (hz : ev L z = some (.int k2 (hi : Int))) (h1 : lo ≤ hi) (h2 : hi ≤ s.size) :
    Qv P w0 n D L A (.slice T x (some y) (some z) none) (.string (s.extract lo hi)) := fun a w hk _ _ _ _ _ _ => ⟨by
    simp [execOp, hk.ev hx, hk.ev hy, hk.ev hz, Instr.sliceAt, Instr.slice, run_underlying (sK_u hT), Instr.sliceBounds, Instr.sliceBound, asIntOf, h1, h2], rfl⟩
end
end Go.Proofs.YtilcdghliigngaaGreatDoorGl
namespace Go.Proofs.YtilcdghliigngaaGreatDoor
set_option linter.unusedVariables false
set_option linter.unusedSimpArgs false
open Go.Proofs.YtilcdghliigngaaGreatDoorGl
theorem iK_2 : iK Tryz.prog 2 = some .i64 := by kernel_rfl
theorem isA_3 : isA Tryz.prog 3 = some false := by kernel_rfl
theorem sz_3 : szT Tryz.prog 3 = some 1 := by kernel_rfl
theorem iK_3 : iK Tryz.prog 3 = some .i64 := by kernel_rfl
theorem zsb_3 : zsb Tryz.prog 3 = some ([.int .i64 0], 1, 8) := by kernel_rfl
theorem zc_3 : zc Tryz.prog 3 = some [.int .i64 0] := by kernel_rfl
theorem isA_4 : isA Tryz.prog 4 = some false := by kernel_rfl
theorem sz_4 : szT Tryz.prog 4 = some 1 := by kernel_rfl
theorem zsb_4 : zsb Tryz.prog 4 = some ([.bool false], 1, 1) := by kernel_rfl
theorem zc_4 : zc Tryz.prog 4 = some [.bool false] := by kernel_rfl
theorem isA_5 : isA Tryz.prog 5 = some false := by kernel_rfl
theorem iK_5 : iK Tryz.prog 5 = some .u8 := by kernel_rfl
theorem zsb_5 : zsb Tryz.prog 5 = some ([.int .u8 0], 1, 1) := by kernel_rfl
theorem isA_22 : isA Tryz.prog 22 = some false := by kernel_rfl
theorem sz_22 : szT Tryz.prog 22 = some 1 := by kernel_rfl
theorem esz_22 : esz Tryz.prog 22 = some 1 := by kernel_rfl
theorem el_22 : elT Tryz.prog 22 = some 5 := by kernel_rfl
theorem zc_22 : zc Tryz.prog 22 = some [.slice none 0 0] := by kernel_rfl
theorem isA_23 : isA Tryz.prog 23 = some false := by kernel_rfl
theorem iK_23 : iK Tryz.prog 23 = some .u64 := by kernel_rfl
theorem isA_25 : isA Tryz.prog 25 = some true := by kernel_rfl
theorem sz_25 : szT Tryz.prog 25 = some 6 := by kernel_rfl
theorem fo_25_0 : fo Tryz.prog 25 0 = some 0 := by kernel_rfl
theorem fo_25_1 : fo Tryz.prog 25 1 = some 1 := by kernel_rfl
theorem fo_25_2 : fo Tryz.prog 25 2 = some 2 := by kernel_rfl
theorem fo_25_3 : fo Tryz.prog 25 3 = some 3 := by kernel_rfl
theorem fo_25_4 : fo Tryz.prog 25 4 = some 4 := by kernel_rfl
theorem fo_25_5 : fo Tryz.prog 25 5 = some 5 := by kernel_rfl
theorem isA_26 : isA Tryz.prog 26 = some false := by kernel_rfl
theorem sz_26 : szT Tryz.prog 26 = some 1 := by kernel_rfl
theorem esz_26 : esz Tryz.prog 26 = some 1 := by kernel_rfl
theorem el_26 : elT Tryz.prog 26 = some 31 := by kernel_rfl
theorem isA_27 : isA Tryz.prog 27 = some false := by kernel_rfl
theorem sz_27 : szT Tryz.prog 27 = some 1 := by kernel_rfl
theorem esz_27 : esz Tryz.prog 27 = some 1 := by kernel_rfl
theorem el_27 : elT Tryz.prog 27 = some 4 := by kernel_rfl
theorem isA_29 : isA Tryz.prog 29 = some true := by kernel_rfl
theorem sz_29 : szT Tryz.prog 29 = some 3 := by kernel_rfl
theorem fo_29_0 : fo Tryz.prog 29 0 = some 0 := by kernel_rfl
theorem fo_29_1 : fo Tryz.prog 29 1 = some 1 := by kernel_rfl
theorem fo_29_2 : fo Tryz.prog 29 2 = some 2 := by kernel_rfl
theorem zc_29 : zc Tryz.prog 29 = some [.slice none 0 0, .int .i64 0, .slice none 0 0] := by kernel_rfl
theorem pls_29 : pls Tryz.prog 29 = some [(0, 1), (1, 1), (2, 1)] := by kernel_rfl
theorem isA_31 : isA Tryz.prog 31 = some false := by kernel_rfl
theorem sz_31 : szT Tryz.prog 31 = some 1 := by kernel_rfl
theorem esz_31 : esz Tryz.prog 31 = some 1 := by kernel_rfl
theorem el_31 : elT Tryz.prog 31 = some 3 := by kernel_rfl
theorem zsb_31 : zsb Tryz.prog 31 = some ([.slice none 0 0], 1, 24) := by kernel_rfl
theorem isA_33 : isA Tryz.prog 33 = some false := by kernel_rfl
theorem sz_33 : szT Tryz.prog 33 = some 1 := by kernel_rfl
theorem zc_33 : zc Tryz.prog 33 = some [.int .i64 0] := by kernel_rfl
theorem isA_37 : isA Tryz.prog 37 = some false := by kernel_rfl
theorem sz_37 : szT Tryz.prog 37 = some 1 := by kernel_rfl
theorem esz_37 : esz Tryz.prog 37 = some 8 := by kernel_rfl
theorem el_37 : elT Tryz.prog 37 = some 62 := by kernel_rfl
theorem isA_38 : isA Tryz.prog 38 = some false := by kernel_rfl
theorem sz_38 : szT Tryz.prog 38 = some 1 := by kernel_rfl
theorem esz_38 : esz Tryz.prog 38 = some 4 := by kernel_rfl
theorem el_38 : elT Tryz.prog 38 = some 109 := by kernel_rfl
theorem isA_40 : isA Tryz.prog 40 = some true := by kernel_rfl
theorem sz_40 : szT Tryz.prog 40 = some 3 := by kernel_rfl
theorem fo_40_0 : fo Tryz.prog 40 0 = some 0 := by kernel_rfl
theorem fo_40_1 : fo Tryz.prog 40 1 = some 1 := by kernel_rfl
theorem fo_40_2 : fo Tryz.prog 40 2 = some 2 := by kernel_rfl
theorem zc_40 : zc Tryz.prog 40 = some [.slice none 0 0, .int .i64 0, .slice none 0 0] := by kernel_rfl
theorem pls_40 : pls Tryz.prog 40 = some [(0, 1), (1, 1), (2, 1)] := by kernel_rfl
theorem isA_43 : isA Tryz.prog 43 = some false := by kernel_rfl
theorem sz_43 : szT Tryz.prog 43 = some 1 := by kernel_rfl
theorem esz_43 : esz Tryz.prog 43 = some 2 := by kernel_rfl
theorem el_43 : elT Tryz.prog 43 = some 70 := by kernel_rfl
theorem zc_43 : zc Tryz.prog 43 = some [.slice none 0 0] := by kernel_rfl
theorem isA_49 : isA Tryz.prog 49 = some true := by kernel_rfl
theorem sz_49 : szT Tryz.prog 49 = some 3 := by kernel_rfl
theorem fo_49_0 : fo Tryz.prog 49 0 = some 0 := by kernel_rfl
theorem fo_49_1 : fo Tryz.prog 49 1 = some 1 := by kernel_rfl
theorem fo_49_2 : fo Tryz.prog 49 2 = some 2 := by kernel_rfl
theorem zc_49 : zc Tryz.prog 49 = some [.slice none 0 0, .slice none 0 0, .int .i64 0] := by kernel_rfl
theorem pls_49 : pls Tryz.prog 49 = some [(0, 1), (1, 1), (2, 1)] := by kernel_rfl
theorem isA_51 : isA Tryz.prog 51 = some true := by kernel_rfl
theorem sz_51 : szT Tryz.prog 51 = some 2 := by kernel_rfl
theorem fo_51_0 : fo Tryz.prog 51 0 = some 0 := by kernel_rfl
theorem fo_51_1 : fo Tryz.prog 51 1 = some 1 := by kernel_rfl
theorem zsb_51 : zsb Tryz.prog 51 = some ([.slice none 0 0, .slice none 0 0], 2, 48) := by kernel_rfl
theorem zc_51 : zc Tryz.prog 51 = some [.slice none 0 0, .slice none 0 0] := by kernel_rfl
theorem pls_51 : pls Tryz.prog 51 = some [(0, 1), (1, 1)] := by kernel_rfl
theorem isA_52 : isA Tryz.prog 52 = some false := by kernel_rfl
theorem esz_52 : esz Tryz.prog 52 = some 2 := by kernel_rfl
theorem el_52 : elT Tryz.prog 52 = some 51 := by kernel_rfl
theorem isA_56 : isA Tryz.prog 56 = some true := by kernel_rfl
theorem sz_56 : szT Tryz.prog 56 = some 6 := by kernel_rfl
theorem fo_56_0 : fo Tryz.prog 56 0 = some 0 := by kernel_rfl
theorem fo_56_1 : fo Tryz.prog 56 1 = some 1 := by kernel_rfl
theorem fo_56_2 : fo Tryz.prog 56 2 = some 2 := by kernel_rfl
theorem fo_56_3 : fo Tryz.prog 56 3 = some 3 := by kernel_rfl
theorem fo_56_4 : fo Tryz.prog 56 4 = some 4 := by kernel_rfl
theorem fo_56_5 : fo Tryz.prog 56 5 = some 5 := by kernel_rfl
theorem zc_56 : zc Tryz.prog 56 = some [.int .i64 0, .slice none 0 0, .int .i64 0, .int .i64 0, .int .i64 0, .int .i64 0] := by kernel_rfl
theorem pls_56 : pls Tryz.prog 56 = some [(0, 1), (1, 1), (2, 1), (3, 1), (4, 1), (5, 1)] := by kernel_rfl
theorem isA_58 : isA Tryz.prog 58 = some false := by kernel_rfl
theorem zsb_58 : zsb Tryz.prog 58 = some ([.nilFunc], 1, 8) := by kernel_rfl
theorem sz_60 : szT Tryz.prog 60 = some 3 := by kernel_rfl
theorem fo_60_0 : fo Tryz.prog 60 0 = some 0 := by kernel_rfl
theorem zc_60 : zc Tryz.prog 60 = some [.slice none 0 0, .int .i64 0, .slice none 0 0] := by kernel_rfl
theorem pls_60 : pls Tryz.prog 60 = some [(0, 3)] := by kernel_rfl
theorem isA_62 : isA Tryz.prog 62 = some true := by kernel_rfl
theorem sz_62 : szT Tryz.prog 62 = some 8 := by kernel_rfl
theorem fo_62_0 : fo Tryz.prog 62 0 = some 0 := by kernel_rfl
theorem fo_62_1 : fo Tryz.prog 62 1 = some 1 := by kernel_rfl
theorem fo_62_2 : fo Tryz.prog 62 2 = some 2 := by kernel_rfl
theorem fo_62_3 : fo Tryz.prog 62 3 = some 3 := by kernel_rfl
theorem fo_62_4 : fo Tryz.prog 62 4 = some 4 := by kernel_rfl
theorem fo_62_5 : fo Tryz.prog 62 5 = some 5 := by kernel_rfl
theorem fo_62_6 : fo Tryz.prog 62 6 = some 6 := by kernel_rfl
theorem fo_62_7 : fo Tryz.prog 62 7 = some 7 := by kernel_rfl
theorem zsb_62 : zsb Tryz.prog 62 = some ([.int .i64 0, .int .i64 0, .int .i64 0, .int .i64 0, .int .i64 0, .int .i64 0, .int .i64 0, .int .i64 0], 8, 64) := by kernel_rfl
theorem zc_62 : zc Tryz.prog 62 = some [.int .i64 0, .int .i64 0, .int .i64 0, .int .i64 0, .int .i64 0, .int .i64 0, .int .i64 0, .int .i64 0] := by kernel_rfl
theorem pls_62 : pls Tryz.prog 62 = some [(0, 1), (1, 1), (2, 1), (3, 1), (4, 1), (5, 1), (6, 1), (7, 1)] := by kernel_rfl
theorem isA_70 : isA Tryz.prog 70 = some true := by kernel_rfl
theorem sz_70 : szT Tryz.prog 70 = some 2 := by kernel_rfl
theorem fo_70_0 : fo Tryz.prog 70 0 = some 0 := by kernel_rfl
theorem fo_70_1 : fo Tryz.prog 70 1 = some 1 := by kernel_rfl
theorem zsb_70 : zsb Tryz.prog 70 = some ([.int .i64 0, .int .i64 0], 2, 16) := by kernel_rfl
theorem zc_70 : zc Tryz.prog 70 = some [.int .i64 0, .int .i64 0] := by kernel_rfl
theorem pls_70 : pls Tryz.prog 70 = some [(0, 1), (1, 1)] := by kernel_rfl
theorem isA_76 : isA Tryz.prog 76 = some false := by kernel_rfl
theorem isA_79 : isA Tryz.prog 79 = some false := by kernel_rfl
theorem sz_79 : szT Tryz.prog 79 = some 1 := by kernel_rfl
theorem zsb_79 : zsb Tryz.prog 79 = some ([.pointer none], 1, 8) := by kernel_rfl
theorem zc_79 : zc Tryz.prog 79 = some [.pointer none] := by kernel_rfl
theorem fo_81_0 : fo Tryz.prog 81 0 = some 0 := by kernel_rfl
theorem fo_81_1 : fo Tryz.prog 81 1 = some 1 := by kernel_rfl
theorem fo_81_2 : fo Tryz.prog 81 2 = some 2 := by kernel_rfl
theorem fo_81_3 : fo Tryz.prog 81 3 = some 3 := by kernel_rfl
theorem fo_81_4 : fo Tryz.prog 81 4 = some 4 := by kernel_rfl
theorem zc_81 : zc Tryz.prog 81 = some [.pointer none, .int .i64 0, .slice none 0 0, .pointer none, .slice none 0 0] := by kernel_rfl
theorem pls_81 : pls Tryz.prog 81 = some [(0, 1), (1, 1), (2, 1), (3, 1), (4, 1)] := by kernel_rfl
theorem isA_82 : isA Tryz.prog 82 = some false := by kernel_rfl
theorem sz_82 : szT Tryz.prog 82 = some 1 := by kernel_rfl
theorem esz_82 : esz Tryz.prog 82 = some 1 := by kernel_rfl
theorem el_82 : elT Tryz.prog 82 = some 79 := by kernel_rfl
theorem zc_82 : zc Tryz.prog 82 = some [.slice none 0 0] := by kernel_rfl
theorem isA_92 : isA Tryz.prog 92 = some false := by kernel_rfl
theorem sz_92 : szT Tryz.prog 92 = some 1 := by kernel_rfl
theorem zc_92 : zc Tryz.prog 92 = some [.map none] := by kernel_rfl
theorem isA_98 : isA Tryz.prog 98 = some false := by kernel_rfl
theorem isA_100 : isA Tryz.prog 100 = some true := by kernel_rfl
theorem sz_100 : szT Tryz.prog 100 = some 2 := by kernel_rfl
theorem fo_100_1 : fo Tryz.prog 100 1 = some 1 := by kernel_rfl
theorem zc_100 : zc Tryz.prog 100 = some [.nilFunc, .nilFunc] := by kernel_rfl
theorem pls_100 : pls Tryz.prog 100 = some [(0, 1), (1, 1)] := by kernel_rfl
theorem isA_104 : isA Tryz.prog 104 = some false := by kernel_rfl
theorem sz_104 : szT Tryz.prog 104 = some 1 := by kernel_rfl
theorem zc_104 : zc Tryz.prog 104 = some [.nilFunc] := by kernel_rfl
theorem isA_107 : isA Tryz.prog 107 = some false := by kernel_rfl
theorem isA_109 : isA Tryz.prog 109 = some true := by kernel_rfl
theorem sz_109 : szT Tryz.prog 109 = some 4 := by kernel_rfl
theorem fo_109_0 : fo Tryz.prog 109 0 = some 0 := by kernel_rfl
theorem fo_109_1 : fo Tryz.prog 109 1 = some 1 := by kernel_rfl
theorem fo_109_2 : fo Tryz.prog 109 2 = some 2 := by kernel_rfl
theorem fo_109_3 : fo Tryz.prog 109 3 = some 3 := by kernel_rfl
theorem zsb_109 : zsb Tryz.prog 109 = some ([.int .i64 0, .int .i64 0, .int .i64 0, .int .i64 0], 4, 32) := by kernel_rfl
theorem zc_109 : zc Tryz.prog 109 = some [.int .i64 0, .int .i64 0, .int .i64 0, .int .i64 0] := by kernel_rfl
theorem pls_109 : pls Tryz.prog 109 = some [(0, 1), (1, 1), (2, 1), (3, 1)] := by kernel_rfl
theorem iK_110 : iK Tryz.prog 110 = some .u64 := by kernel_rfl
theorem esz_115 : esz Tryz.prog 115 = some 1 := by kernel_rfl
theorem el_115 : elT Tryz.prog 115 = some 58 := by kernel_rfl
theorem isA_125 : isA Tryz.prog 125 = some false := by kernel_rfl
theorem isA_126 : isA Tryz.prog 126 = some false := by kernel_rfl
theorem sz_126 : szT Tryz.prog 126 = some 1 := by kernel_rfl
theorem esz_126 : esz Tryz.prog 126 = some 2 := by kernel_rfl
theorem el_126 : elT Tryz.prog 126 = some 133 := by kernel_rfl
theorem isA_128 : isA Tryz.prog 128 = some true := by kernel_rfl
theorem sz_128 : szT Tryz.prog 128 = some 16 := by kernel_rfl
theorem asz_128 : asz Tryz.prog 128 = some (16, 1) := by kernel_rfl
theorem isA_130 : isA Tryz.prog 130 = some true := by kernel_rfl
theorem sz_130 : szT Tryz.prog 130 = some 22 := by kernel_rfl
theorem fo_130_0 : fo Tryz.prog 130 0 = some 0 := by kernel_rfl
theorem fo_130_1 : fo Tryz.prog 130 1 = some 3 := by kernel_rfl
theorem fo_130_2 : fo Tryz.prog 130 2 = some 4 := by kernel_rfl
theorem fo_130_3 : fo Tryz.prog 130 3 = some 5 := by kernel_rfl
theorem fo_130_4 : fo Tryz.prog 130 4 = some 6 := by kernel_rfl
theorem zc_130 : zc Tryz.prog 130 = some [.slice none 0 0, .int .i64 0, .slice none 0 0, .map none, .int .i64 0, .slice none 0 0, .slice none 0 0, .slice none 0 0, .slice none 0 0, .slice none 0 0, .slice none 0 0, .slice none 0 0, .slice none 0 0, .slice none 0 0, .slice none 0 0, .slice none 0 0, .slice none 0 0, .slice none 0 0, .slice none 0 0, .slice none 0 0, .slice none 0 0, .slice none 0 0] := by kernel_rfl
theorem pls_130 : pls Tryz.prog 130 = some [(0, 3), (3, 1), (4, 1), (5, 1), (6, 16)] := by kernel_rfl
theorem isA_133 : isA Tryz.prog 133 = some true := by kernel_rfl
theorem sz_133 : szT Tryz.prog 133 = some 2 := by kernel_rfl
theorem fo_133_0 : fo Tryz.prog 133 0 = some 0 := by kernel_rfl
theorem fo_133_1 : fo Tryz.prog 133 1 = some 1 := by kernel_rfl
theorem zsb_133 : zsb Tryz.prog 133 = some ([.int .i64 0, .int .i64 0], 2, 16) := by kernel_rfl
theorem zc_133 : zc Tryz.prog 133 = some [.int .i64 0, .int .i64 0] := by kernel_rfl
theorem pls_133 : pls Tryz.prog 133 = some [(0, 1), (1, 1)] := by kernel_rfl
theorem isA_138 : isA Tryz.prog 138 = some true := by kernel_rfl
theorem sz_138 : szT Tryz.prog 138 = some 3 := by kernel_rfl
theorem fo_138_1 : fo Tryz.prog 138 1 = some 1 := by kernel_rfl
theorem fo_138_2 : fo Tryz.prog 138 2 = some 2 := by kernel_rfl
theorem zc_138 : zc Tryz.prog 138 = some [.int .i64 0, .slice none 0 0, .slice none 0 0] := by kernel_rfl
theorem pls_138 : pls Tryz.prog 138 = some [(0, 1), (1, 1), (2, 1)] := by kernel_rfl
theorem esz_145 : esz Tryz.prog 145 = some 9 := by kernel_rfl
theorem el_145 : elT Tryz.prog 145 = some 150 := by kernel_rfl
theorem isA_147 : isA Tryz.prog 147 = some true := by kernel_rfl
theorem sz_147 : szT Tryz.prog 147 = some 2 := by kernel_rfl
theorem fo_147_0 : fo Tryz.prog 147 0 = some 0 := by kernel_rfl
theorem fo_147_1 : fo Tryz.prog 147 1 = some 1 := by kernel_rfl
theorem zsb_147 : zsb Tryz.prog 147 = some ([.int .i64 0, .int .i64 0], 2, 16) := by kernel_rfl
theorem zc_147 : zc Tryz.prog 147 = some [.int .i64 0, .int .i64 0] := by kernel_rfl
theorem pls_147 : pls Tryz.prog 147 = some [(0, 1), (1, 1)] := by kernel_rfl
theorem isA_148 : isA Tryz.prog 148 = some false := by kernel_rfl
theorem sz_148 : szT Tryz.prog 148 = some 1 := by kernel_rfl
theorem zc_148 : zc Tryz.prog 148 = some [.map none] := by kernel_rfl
theorem sz_150 : szT Tryz.prog 150 = some 9 := by kernel_rfl
theorem fo_150_0 : fo Tryz.prog 150 0 = some 0 := by kernel_rfl
theorem fo_150_1 : fo Tryz.prog 150 1 = some 8 := by kernel_rfl
theorem zsb_150 : zsb Tryz.prog 150 = some ([.int .i64 0, .int .i64 0, .int .i64 0, .int .i64 0, .int .i64 0, .int .i64 0, .int .i64 0, .int .i64 0, .map none], 9, 72) := by kernel_rfl
theorem zc_150 : zc Tryz.prog 150 = some [.int .i64 0, .int .i64 0, .int .i64 0, .int .i64 0, .int .i64 0, .int .i64 0, .int .i64 0, .int .i64 0, .map none] := by kernel_rfl
theorem pls_150 : pls Tryz.prog 150 = some [(0, 8), (8, 1)] := by kernel_rfl
theorem esz_151 : esz Tryz.prog 151 = some 2 := by kernel_rfl
theorem el_151 : elT Tryz.prog 151 = some 147 := by kernel_rfl
theorem isA_163 : isA Tryz.prog 163 = some false := by kernel_rfl
theorem isA_165 : isA Tryz.prog 165 = some true := by kernel_rfl
theorem sz_165 : szT Tryz.prog 165 = some 2 := by kernel_rfl
theorem fo_165_0 : fo Tryz.prog 165 0 = some 0 := by kernel_rfl
theorem fo_165_1 : fo Tryz.prog 165 1 = some 1 := by kernel_rfl
theorem zc_165 : zc Tryz.prog 165 = some [.int .i64 0, .nilFunc] := by kernel_rfl
theorem pls_165 : pls Tryz.prog 165 = some [(0, 1), (1, 1)] := by kernel_rfl
theorem fo_195_0 : fo Tryz.prog 195 0 = some 0 := by kernel_rfl
theorem zc_195 : zc Tryz.prog 195 = some [.slice none 0 0] := by kernel_rfl
theorem pls_195 : pls Tryz.prog 195 = some [(0, 1)] := by kernel_rfl
theorem fo_200_0 : fo Tryz.prog 200 0 = some 0 := by kernel_rfl
theorem fo_200_1 : fo Tryz.prog 200 1 = some 8 := by kernel_rfl
theorem fo_200_2 : fo Tryz.prog 200 2 = some 10 := by kernel_rfl
theorem zc_200 : zc Tryz.prog 200 = some [.int .i64 0, .int .i64 0, .int .i64 0, .int .i64 0, .int .i64 0, .int .i64 0, .int .i64 0, .int .i64 0, .int .i64 0, .int .i64 0, .nilFunc] := by kernel_rfl
theorem pls_200 : pls Tryz.prog 200 = some [(0, 8), (8, 2), (10, 1)] := by kernel_rfl
theorem isA_201 : isA Tryz.prog 201 = some false := by kernel_rfl
theorem en_4 : Enters Tryz.prog 4 := Go.Proofs.enters_of Tryz.func4 (by kernel_rfl) rfl
theorem en_5 : Enters Tryz.prog 5 := Go.Proofs.enters_of Tryz.func5 (by kernel_rfl) rfl
theorem en_6 : Enters Tryz.prog 6 := Go.Proofs.enters_of Tryz.func6 (by kernel_rfl) rfl
theorem en_7 : Enters Tryz.prog 7 := Go.Proofs.enters_of Tryz.func7 (by kernel_rfl) rfl
theorem en_8 : Enters Tryz.prog 8 := Go.Proofs.enters_of Tryz.func8 (by kernel_rfl) rfl
theorem en_9 : Enters Tryz.prog 9 := Go.Proofs.enters_of Tryz.func9 (by kernel_rfl) rfl
theorem en_10 : Enters Tryz.prog 10 := Go.Proofs.enters_of Tryz.func10 (by kernel_rfl) rfl
theorem en_11 : Enters Tryz.prog 11 := Go.Proofs.enters_of Tryz.func11 (by kernel_rfl) rfl
theorem en_12 : Enters Tryz.prog 12 := Go.Proofs.enters_of Tryz.func12 (by kernel_rfl) rfl
theorem en_13 : Enters Tryz.prog 13 := Go.Proofs.enters_of Tryz.func13 (by kernel_rfl) rfl
theorem en_14 : Enters Tryz.prog 14 := Go.Proofs.enters_of Tryz.func14 (by kernel_rfl) rfl
theorem en_15 : Enters Tryz.prog 15 := Go.Proofs.enters_of Tryz.func15 (by kernel_rfl) rfl
theorem en_16 : Enters Tryz.prog 16 := Go.Proofs.enters_of Tryz.func16 (by kernel_rfl) rfl
theorem en_17 : Enters Tryz.prog 17 := Go.Proofs.enters_of Tryz.func17 (by kernel_rfl) rfl
theorem en_18 : Enters Tryz.prog 18 := Go.Proofs.enters_of Tryz.func18 (by kernel_rfl) rfl
theorem en_19 : Enters Tryz.prog 19 := Go.Proofs.enters_of Tryz.func19 (by kernel_rfl) rfl
theorem en_20 : Enters Tryz.prog 20 := Go.Proofs.enters_of Tryz.func20 (by kernel_rfl) rfl
theorem en_21 : Enters Tryz.prog 21 := Go.Proofs.enters_of Tryz.func21 (by kernel_rfl) rfl
theorem en_22 : Enters Tryz.prog 22 := Go.Proofs.enters_of Tryz.func22 (by kernel_rfl) rfl
theorem en_23 : Enters Tryz.prog 23 := Go.Proofs.enters_of Tryz.func23 (by kernel_rfl) rfl
theorem en_24 : Enters Tryz.prog 24 := Go.Proofs.enters_of Tryz.func24 (by kernel_rfl) rfl
theorem en_25 : Enters Tryz.prog 25 := Go.Proofs.enters_of Tryz.func25 (by kernel_rfl) rfl
theorem en_26 : Enters Tryz.prog 26 := Go.Proofs.enters_of Tryz.func26 (by kernel_rfl) rfl
theorem en_27 : Enters Tryz.prog 27 := Go.Proofs.enters_of Tryz.func27 (by kernel_rfl) rfl
theorem en_28 : Enters Tryz.prog 28 := Go.Proofs.enters_of Tryz.func28 (by kernel_rfl) rfl
theorem en_29 : Enters Tryz.prog 29 := Go.Proofs.enters_of Tryz.func29 (by kernel_rfl) rfl
theorem en_30 : Enters Tryz.prog 30 := Go.Proofs.enters_of Tryz.func30 (by kernel_rfl) rfl
theorem en_31 : Enters Tryz.prog 31 := Go.Proofs.enters_of Tryz.func31 (by kernel_rfl) rfl
theorem en_32 : Enters Tryz.prog 32 := Go.Proofs.enters_of Tryz.func32 (by kernel_rfl) rfl
theorem en_33 : Enters Tryz.prog 33 := Go.Proofs.enters_of Tryz.func33 (by kernel_rfl) rfl
theorem en_34 : Enters Tryz.prog 34 := Go.Proofs.enters_of Tryz.func34 (by kernel_rfl) rfl
theorem en_35 : Enters Tryz.prog 35 := Go.Proofs.enters_of Tryz.func35 (by kernel_rfl) rfl
theorem en_36 : Enters Tryz.prog 36 := Go.Proofs.enters_of Tryz.func36 (by kernel_rfl) rfl
theorem en_37 : Enters Tryz.prog 37 := Go.Proofs.enters_of Tryz.func37 (by kernel_rfl) rfl
theorem en_38 : Enters Tryz.prog 38 := Go.Proofs.enters_of Tryz.func38 (by kernel_rfl) rfl
theorem en_39 : Enters Tryz.prog 39 := Go.Proofs.enters_of Tryz.func39 (by kernel_rfl) rfl
theorem en_40 : Enters Tryz.prog 40 := Go.Proofs.enters_of Tryz.func40 (by kernel_rfl) rfl
theorem en_41 : Enters Tryz.prog 41 := Go.Proofs.enters_of Tryz.func41 (by kernel_rfl) rfl
theorem en_42 : Enters Tryz.prog 42 := Go.Proofs.enters_of Tryz.func42 (by kernel_rfl) rfl
theorem en_43 : Enters Tryz.prog 43 := Go.Proofs.enters_of Tryz.func43 (by kernel_rfl) rfl
theorem en_44 : Enters Tryz.prog 44 := Go.Proofs.enters_of Tryz.func44 (by kernel_rfl) rfl
theorem en_45 : Enters Tryz.prog 45 := Go.Proofs.enters_of Tryz.func45 (by kernel_rfl) rfl
theorem en_46 : Enters Tryz.prog 46 := Go.Proofs.enters_of Tryz.func46 (by kernel_rfl) rfl
theorem en_47 : Enters Tryz.prog 47 := Go.Proofs.enters_of Tryz.func47 (by kernel_rfl) rfl
theorem en_48 : Enters Tryz.prog 48 := Go.Proofs.enters_of Tryz.func48 (by kernel_rfl) rfl
theorem en_49 : Enters Tryz.prog 49 := Go.Proofs.enters_of Tryz.func49 (by kernel_rfl) rfl
theorem en_52 : Enters Tryz.prog 52 := Go.Proofs.enters_of Tryz.func52 (by kernel_rfl) rfl
theorem en_53 : Enters Tryz.prog 53 := Go.Proofs.enters_of Tryz.func53 (by kernel_rfl) rfl
theorem en_54 : Enters Tryz.prog 54 := Go.Proofs.enters_of Tryz.func54 (by kernel_rfl) rfl
theorem en_55 : Enters Tryz.prog 55 := Go.Proofs.enters_of Tryz.func55 (by kernel_rfl) rfl
theorem en_56 : Enters Tryz.prog 56 := Go.Proofs.enters_of Tryz.func56 (by kernel_rfl) rfl
theorem en_57 : Enters Tryz.prog 57 := Go.Proofs.enters_of Tryz.func57 (by kernel_rfl) rfl
theorem en_58 : Enters Tryz.prog 58 := Go.Proofs.enters_of Tryz.func58 (by kernel_rfl) rfl
theorem en_59 : Enters Tryz.prog 59 := Go.Proofs.enters_of Tryz.func59 (by kernel_rfl) rfl
theorem en_60 : Enters Tryz.prog 60 := Go.Proofs.enters_of Tryz.func60 (by kernel_rfl) rfl
theorem en_61 : Enters Tryz.prog 61 := Go.Proofs.enters_of Tryz.func61 (by kernel_rfl) rfl
theorem en_62 : Enters Tryz.prog 62 := Go.Proofs.enters_of Tryz.func62 (by kernel_rfl) rfl
theorem en_63 : Enters Tryz.prog 63 := Go.Proofs.enters_of Tryz.func63 (by kernel_rfl) rfl
theorem en_64 : Enters Tryz.prog 64 := Go.Proofs.enters_of Tryz.func64 (by kernel_rfl) rfl
theorem en_65 : Enters Tryz.prog 65 := Go.Proofs.enters_of Tryz.func65 (by kernel_rfl) rfl
theorem en_66 : Enters Tryz.prog 66 := Go.Proofs.enters_of Tryz.func66 (by kernel_rfl) rfl
theorem en_67 : Enters Tryz.prog 67 := Go.Proofs.enters_of Tryz.func67 (by kernel_rfl) rfl
theorem en_68 : Enters Tryz.prog 68 := Go.Proofs.enters_of Tryz.func68 (by kernel_rfl) rfl
theorem en_69 : Enters Tryz.prog 69 := Go.Proofs.enters_of Tryz.func69 (by kernel_rfl) rfl
theorem en_70 : Enters Tryz.prog 70 := Go.Proofs.enters_of Tryz.func70 (by kernel_rfl) rfl
theorem en_71 : Enters Tryz.prog 71 := Go.Proofs.enters_of Tryz.func71 (by kernel_rfl) rfl
theorem en_72 : Enters Tryz.prog 72 := Go.Proofs.enters_of Tryz.func72 (by kernel_rfl) rfl
theorem en_73 : Enters Tryz.prog 73 := Go.Proofs.enters_of Tryz.func73 (by kernel_rfl) rfl
theorem en_74 : Enters Tryz.prog 74 := Go.Proofs.enters_of Tryz.func74 (by kernel_rfl) rfl
theorem en_75 : Enters Tryz.prog 75 := Go.Proofs.enters_of Tryz.func75 (by kernel_rfl) rfl
theorem en_76 : Enters Tryz.prog 76 := Go.Proofs.enters_of Tryz.func76 (by kernel_rfl) rfl
theorem en_77 : Enters Tryz.prog 77 := Go.Proofs.enters_of Tryz.func77 (by kernel_rfl) rfl
theorem en_78 : Enters Tryz.prog 78 := Go.Proofs.enters_of Tryz.func78 (by kernel_rfl) rfl
theorem en_79 : Enters Tryz.prog 79 := Go.Proofs.enters_of Tryz.func79 (by kernel_rfl) rfl
theorem en_80 : Enters Tryz.prog 80 := Go.Proofs.enters_of Tryz.func80 (by kernel_rfl) rfl
theorem en_84 : Enters Tryz.prog 84 := Go.Proofs.enters_of Tryz.func84 (by kernel_rfl) rfl
theorem en_85 : Enters Tryz.prog 85 := Go.Proofs.enters_of Tryz.func85 (by kernel_rfl) rfl
theorem en_86 : Enters Tryz.prog 86 := Go.Proofs.enters_of Tryz.func86 (by kernel_rfl) rfl
theorem en_87 : Enters Tryz.prog 87 := Go.Proofs.enters_of Tryz.func87 (by kernel_rfl) rfl
theorem en_89 : Enters Tryz.prog 89 := Go.Proofs.enters_of Tryz.func89 (by kernel_rfl) rfl
theorem en_91 : Enters Tryz.prog 91 := Go.Proofs.enters_of Tryz.func91 (by kernel_rfl) rfl
theorem en_92 : Enters Tryz.prog 92 := Go.Proofs.enters_of Tryz.func92 (by kernel_rfl) rfl
theorem en_93 : Enters Tryz.prog 93 := Go.Proofs.enters_of Tryz.func93 (by kernel_rfl) rfl
theorem en_94 : Enters Tryz.prog 94 := Go.Proofs.enters_of Tryz.func94 (by kernel_rfl) rfl
theorem en_95 : Enters Tryz.prog 95 := Go.Proofs.enters_of Tryz.func95 (by kernel_rfl) rfl
theorem en_96 : Enters Tryz.prog 96 := Go.Proofs.enters_of Tryz.func96 (by kernel_rfl) rfl
theorem en_97 : Enters Tryz.prog 97 := Go.Proofs.enters_of Tryz.func97 (by kernel_rfl) rfl
theorem en_98 : Enters Tryz.prog 98 := Go.Proofs.enters_of Tryz.func98 (by kernel_rfl) rfl
theorem en_99 : Enters Tryz.prog 99 := Go.Proofs.enters_of Tryz.func99 (by kernel_rfl) rfl
theorem en_100 : Enters Tryz.prog 100 := Go.Proofs.enters_of Tryz.func100 (by kernel_rfl) rfl
theorem en_101 : Enters Tryz.prog 101 := Go.Proofs.enters_of Tryz.func101 (by kernel_rfl) rfl
theorem en_102 : Enters Tryz.prog 102 := Go.Proofs.enters_of Tryz.func102 (by kernel_rfl) rfl
theorem en_103 : Enters Tryz.prog 103 := Go.Proofs.enters_of Tryz.func103 (by kernel_rfl) rfl
theorem en_104 : Enters Tryz.prog 104 := Go.Proofs.enters_of Tryz.func104 (by kernel_rfl) rfl
theorem en_105 : Enters Tryz.prog 105 := Go.Proofs.enters_of Tryz.func105 (by kernel_rfl) rfl
theorem en_106 : Enters Tryz.prog 106 := Go.Proofs.enters_of Tryz.func106 (by kernel_rfl) rfl
theorem en_108 : Enters Tryz.prog 108 := Go.Proofs.enters_of Tryz.func108 (by kernel_rfl) rfl
theorem en_115 : Enters Tryz.prog 115 := Go.Proofs.enters_of Tryz.func115 (by kernel_rfl) rfl
theorem en_116 : Enters Tryz.prog 116 := Go.Proofs.enters_of Tryz.func116 (by kernel_rfl) rfl
theorem en_117 : Enters Tryz.prog 117 := Go.Proofs.enters_of Tryz.func117 (by kernel_rfl) rfl
theorem en_118 : Enters Tryz.prog 118 := Go.Proofs.enters_of Tryz.func118 (by kernel_rfl) rfl
theorem en_119 : Enters Tryz.prog 119 := Go.Proofs.enters_of Tryz.func119 (by kernel_rfl) rfl
theorem en_120 : Enters Tryz.prog 120 := Go.Proofs.enters_of Tryz.func120 (by kernel_rfl) rfl
theorem en_121 : Enters Tryz.prog 121 := Go.Proofs.enters_of Tryz.func121 (by kernel_rfl) rfl
theorem en_122 : Enters Tryz.prog 122 := Go.Proofs.enters_of Tryz.func122 (by kernel_rfl) rfl
theorem en_123 : Enters Tryz.prog 123 := Go.Proofs.enters_of Tryz.func123 (by kernel_rfl) rfl
theorem en_124 : Enters Tryz.prog 124 := Go.Proofs.enters_of Tryz.func124 (by kernel_rfl) rfl
theorem en_130 : Enters Tryz.prog 130 := Go.Proofs.enters_of Tryz.func130 (by kernel_rfl) rfl
theorem en_134 : Enters Tryz.prog 134 := Go.Proofs.enters_of Tryz.func134 (by kernel_rfl) rfl
theorem en_135 : Enters Tryz.prog 135 := Go.Proofs.enters_of Tryz.func135 (by kernel_rfl) rfl
theorem en_139 : Enters Tryz.prog 139 := Go.Proofs.enters_of Tryz.func139 (by kernel_rfl) rfl
theorem en_140 : Enters Tryz.prog 140 := Go.Proofs.enters_of Tryz.func140 (by kernel_rfl) rfl
theorem en_141 : Enters Tryz.prog 141 := Go.Proofs.enters_of Tryz.func141 (by kernel_rfl) rfl
theorem en_142 : Enters Tryz.prog 142 := Go.Proofs.enters_of Tryz.func142 (by kernel_rfl) rfl
theorem en_148 : Enters Tryz.prog 148 := Go.Proofs.enters_of Tryz.func148 (by kernel_rfl) rfl
end Go.Proofs.YtilcdghliigngaaGreatDoor
