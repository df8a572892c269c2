/- Counting and patterns: the law returns true at every input and leaves it as it was. No condition. -/
import Derived.WalkKit
import Derived.OwnWalkIn
import Derived.TacticsInMore
import Derived.OrdersIn
import Derived.RangeFuncLeaves
import Derived.RangeFuncNested
import Derived.Maps.AppendAt
import Derived.Shelf.Abstract
import Derived.Test.YtilcdghliigngaaProg
import Derived.MapKept
import Derived.Laws.StructEq
import Derived.Laws.OwnMore
import Derived.RangeFuncRecord
import Derived.Lib.SliceRun
import Derived.Lib.AppendZeros
import Derived.Lib.AppendZerosOnto
import Derived.Lib.Overlaps
import Derived.Laws.Externs
import Derived.Lib.SmallJoins
import Derived.SizedLaws
import Derived.Deep.Slices
import Derived.Test.YtilcdghliigngaaRows
import Derived.ProofKit
import Derived.OpenShut
import Derived.ShutString
import Derived.ChangeOld
import Derived.Below
import Derived.Test.YtilcdghliigngaaPj5
namespace Go.Proofs.Ytilcdghliigngaa
open Go.RowKit Go.Proofs.YtilcdghliigngaaGl Go.Proofs.YtilcdghliigngaaPm Go.Deep Go.Joins Go.ChangeShapes
set_option linter.unusedVariables false
set_option linter.unusedSimpArgs false
section
variable {H : Type} (en : TypeId × Value → H) (P : Program) (w : World) (base : Nat) (spare : Nat → Bool) (held : Bool)
def Rds (t : TypeId) {α : Type} (e : α → List Value) (ok okW : α → Prop) : Prop :=
  ∀ fuel cs x, DataW.trod en P w base spare held fuel t cs = some x → ∃ a : α, cs = e a ∧ ok a ∧ ((∀ z ∈ x.1.weights P t, z ≤ reachBytes) → okW a)
variable {en P w base spare held}
theorem Rds.map {t : TypeId} {α β : Type} {e : α → List Value} {ok okW : α → Prop} (h : Rds en P w base spare held t e ok okW) (f : α → β) {e' : β → List Value} {ok' okW' : β → Prop} (he : ∀ a, e' (f a) = e a) (h1 : ∀ a, ok a → ok' (f a)) (h2 : ∀ a, okW a → okW' (f a)) : Rds en P w base spare held t e' ok' okW' := fun fuel cs x hx => by
  obtain ⟨a, rfl, k1, k2⟩ := h fuel cs x hx
  exact ⟨f a, (he a).symm, h1 a k1, fun hw => h2 a (k2 hw)⟩
theorem rds_int {t : TypeId} (ht : P.underlying t = some (.int .i64)) : Rds en P w base spare held t eInt (fun _ => True) (fun _ => True) := fun fuel cs x hx => by
  obtain ⟨n, rfl, _, _⟩ := DataW.trod_int ht hx
  exact ⟨n, rfl, trivial, fun _ => trivial⟩
theorem list_choose {α : Type} {p : Nat → α → Prop} : ∀ {n : Nat}, (∀ i, i < n → ∃ x, p i x) → ∃ xs : List α, xs.length = n ∧ ∀ i x, xs[i]? = some x → p i x
  | 0, _ => ⟨[], rfl, fun i x h => by simp at h⟩
  | n + 1, h => by
    obtain ⟨xs, hl, hx⟩ := list_choose (n := n) (fun i hi => h i (by omega))
    obtain ⟨y, hy⟩ := h n (by omega)
    refine ⟨xs ++ [y], by simp [hl], fun i x hi => ?_⟩
    by_cases hlt : i < xs.length
    · rw [List.getElem?_append_left hlt] at hi; exact hx i x hi
    · rw [List.getElem?_append_right (by omega)] at hi
      by_cases h0 : i - xs.length = 0
      · rw [h0] at hi; simp at hi; subst hi
        rw [show i = n by omega]; exact hy
      · rw [List.getElem?_eq_none (by simp; omega)] at hi; cases hi
theorem fm_split_at {α : Type} {e : α → List Value} {sz : Nat} (he : ∀ a, (e a).length = sz) : ∀ {xs : List α} {j : Nat} {u : Value}, (xs.flatMap e)[j]? = some u → ∃ i x r, xs[i]? = some x ∧ (e x)[r]? = some u ∧ j = i * sz + r
  | [], j, u, h => by simp at h
  | x :: xs, j, u, h => by
    rw [List.flatMap_cons] at h
    by_cases hj : j < (e x).length
    · rw [List.getElem?_append_left hj] at h
      exact ⟨0, x, j, rfl, h, by omega⟩
    · rw [List.getElem?_append_right (by omega)] at h
      obtain ⟨i, y, r, h1, h2, h3⟩ := fm_split_at he h
      refine ⟨i + 1, y, r, by simpa using h1, h2, ?_⟩
      rw [he] at h3 hj
      rw [Nat.succ_mul]; omega
theorem weights_elem {e : TypeId} {d : DataW H} : ∀ {ds : List (DataW H)}, d ∈ ds → ∀ z ∈ d.weights P e, z ∈ DataW.weightsAll P e ds
  | [], h, _, _ => by cases h
  | x :: ds, h, z, hz => by
    rw [DataW.weightsAll]
    rcases List.mem_cons.1 h with rfl | h
    · exact List.mem_append_left _ hz
    · exact List.mem_append_right _ (weights_elem h z hz)
theorem rds_slice {t e : TypeId} {α : Type} {eE : α → List Value} {ok okW : α → Prop} (ht : P.underlying t = some (.slice e)) (hz : ∀ a, (eE a).length = P.cellsOf e) (hR : Rds en P w base spare held e eE ok okW) :
    Rds en P w base spare held t (fun l : (Option Addr × Nat) × List α => [.slice l.1.1 l.2.length l.1.2]) (fun l => RoL w l.1.1 eE l.2 ∧ l.2.length ≤ l.1.2 ∧ ∀ x ∈ l.2, ok x) (fun l => l.2.length * P.bytesOf e ≤ reachBytes ∧ ∀ x ∈ l.2, okW x) := fun fuel cs x hx => by
  rcases open_slice ht hx with ⟨rfl, rfl⟩ | ⟨a, len, cap, m, n, D, Pl, rfl, hb, hl, hm, hmm, rfl, hel⟩
  · exact ⟨((none, 0), []), rfl, ⟨Ro.nil _ _, Nat.le_refl _, fun x h => by cases h⟩, fun _ => ⟨by simp, fun x h => by cases h⟩⟩
  · have hlm : len ≤ m := by rw [hmm]; split <;> omega
    obtain ⟨xs, hxl, hxs⟩ := list_choose (n := len) (p := fun i (y : α) => w.cells? base (a.add (i * P.cellsOf e)) (P.cellsOf e) = some (eE y) ∧ ok y ∧ ((∀ z ∈ (D i).weights P e, z ≤ reachBytes) → okW y)) (fun i hi => by
      obtain ⟨cs', h1, h2⟩ := hel i (by omega)
      obtain ⟨y, rfl, k1, k2⟩ := hR n cs' _ h2
      exact ⟨y, h1, k1, k2⟩)
    subst hxl
    refine ⟨((some a, cap), xs), rfl, ⟨?_, hl, fun y hy => ?_⟩, fun hw => ⟨?_, fun y hy => ?_⟩⟩
    · intro j u hu
      obtain ⟨i, y, r, h1, h2, rfl⟩ := fm_split_at hz hu
      obtain ⟨h3, _, _⟩ := hxs i y h1
      obtain ⟨_, _, h5⟩ := World.cells?_some h3
      have hr : r < P.cellsOf e := by rw [← hz y]; exact (List.getElem?_eq_some_iff.1 h2).1
      have h6 := h5 r hr
      rw [h2] at h6
      obtain ⟨b, off, spot⟩ := a
      have hlt : i < xs.length := (List.getElem?_eq_some_iff.1 h1).1
      obtain ⟨y0, hy0⟩ : ∃ y0, xs[0]? = some y0 := ⟨_, List.getElem?_eq_getElem (by omega)⟩
      obtain ⟨_, _, g5⟩ := World.cells?_some (hxs 0 y0 hy0).1
      have g6 := g5 0 (by omega)
      obtain ⟨v0, hv0⟩ : ∃ v0, (eE y0)[0]? = some v0 := ⟨_, List.getElem?_eq_getElem (by rw [hz]; omega)⟩
      rw [hv0] at g6
      have hs : spot = none := by have := World.cell?_spot g6; simpa [Addr.add] using this
      subst hs
      rw [add_at, add_at] at h6
      exact ⟨b, off, rfl, by rw [← h6, Nat.add_assoc]⟩
    · obtain ⟨i, hi⟩ := List.mem_iff_getElem?.1 hy
      exact (hxs i y hi).2.1
    · have := hw ((xs.length + (m - xs.length)) * P.bytesOf e) (by simp [DataW.weights, ht])
      exact Nat.le_trans (Nat.mul_le_mul_right _ (show xs.length ≤ xs.length + (m - xs.length) by omega)) this
    · obtain ⟨i, hi⟩ := List.mem_iff_getElem?.1 hy
      refine (hxs i y hi).2.2 (fun z hz' => hw z ?_)
      simp only [DataW.weights, ht]
      refine List.mem_cons_of_mem _ (List.mem_append_left _ (weights_elem (d := D i) (List.mem_map.2 ⟨i, List.mem_range.2 (List.getElem?_eq_some_iff.1 hi).1, rfl⟩) z hz'))
theorem rds_struct2 {t : TypeId} {f0 f1 : Field} {α β : Type} {e0 : α → List Value} {e1 : β → List Value} {k0 w0 : α → Prop} {k1 w1 : β → Prop} (hs : P.underlying t = some (.struct #[f0, f1])) (hone : oneCellFields P #[f0, f1] = true) (hC : P.cellsOf t = 2)
    (h0 : Rds en P w base spare held f0.type e0 k0 w0) (h1 : Rds en P w base spare held f1.type e1 k1 w1) :
    Rds en P w base spare held t (fun p : α × β => e0 p.1 ++ e1 p.2) (fun p => k0 p.1 ∧ k1 p.2) (fun p => w0 p.1 ∧ w1 p.2) := fun fuel cs x hx => by
  obtain ⟨y0, y1, n, rfl, hl, g0, g1⟩ := trod_struct2 hs hx
  obtain ⟨o0, c0⟩ := hone_of hone 0 f0 rfl
  obtain ⟨o1, c1⟩ := hone_of hone 1 f1 rfl
  rw [hC] at hl
  match cs, hl with
  | [a, b], _ =>
    rw [o0, c0] at g0; rw [o1, c1] at g1
    obtain ⟨p, hp, q1, q2⟩ := h0 n _ _ g0
    obtain ⟨r, hr, s1, s2⟩ := h1 n _ _ g1
    simp at hp hr
    refine ⟨(p, r), by show [a, b] = e0 p ++ e1 r; rw [← hp, ← hr]; rfl, ⟨q1, s1⟩, fun hw => ⟨q2 fun z hz => hw z ?_, s2 fun z hz => hw z ?_⟩⟩
    · simp [DataW.weights, hs, DataW.weightsEach]; exact .inl hz
    · simp [DataW.weights, hs, DataW.weightsEach]; exact .inr hz
theorem rds_struct3 {t : TypeId} {f0 f1 f2 : Field} {α β γ : Type} {e0 : α → List Value} {e1 : β → List Value} {e2 : γ → List Value} {k0 w0 : α → Prop} {k1 w1 : β → Prop} {k2 w2 : γ → Prop} (hs : P.underlying t = some (.struct #[f0, f1, f2])) (hone : oneCellFields P #[f0, f1, f2] = true) (hC : P.cellsOf t = 3)
    (h0 : Rds en P w base spare held f0.type e0 k0 w0) (h1 : Rds en P w base spare held f1.type e1 k1 w1) (h2 : Rds en P w base spare held f2.type e2 k2 w2) :
    Rds en P w base spare held t (fun p : α × β × γ => e0 p.1 ++ (e1 p.2.1 ++ e2 p.2.2)) (fun p => k0 p.1 ∧ k1 p.2.1 ∧ k2 p.2.2) (fun p => w0 p.1 ∧ w1 p.2.1 ∧ w2 p.2.2) := fun fuel cs x hx => by
  obtain ⟨y0, y1, y2, n, rfl, hl, g0, g1, g2⟩ := trod_struct3 hs hx
  obtain ⟨o0, c0⟩ := hone_of hone 0 f0 rfl
  obtain ⟨o1, c1⟩ := hone_of hone 1 f1 rfl
  obtain ⟨o2, c2⟩ := hone_of hone 2 f2 rfl
  rw [hC] at hl
  match cs, hl with
  | [a, b, c], _ =>
    rw [o0, c0] at g0; rw [o1, c1] at g1; rw [o2, c2] at g2
    obtain ⟨p, hp, q1, q2⟩ := h0 n _ _ g0
    obtain ⟨r, hr, s1, s2⟩ := h1 n _ _ g1
    obtain ⟨t', ht', u1, u2⟩ := h2 n _ _ g2
    simp at hp hr ht'
    refine ⟨(p, r, t'), by show [a, b, c] = e0 p ++ (e1 r ++ e2 t'); rw [← hp, ← hr, ← ht']; rfl, ⟨q1, s1, u1⟩, fun hw => ⟨q2 fun z hz => hw z ?_, s2 fun z hz => hw z ?_, u2 fun z hz => hw z ?_⟩⟩
    · simp [DataW.weights, hs, DataW.weightsEach]; exact .inl hz
    · simp [DataW.weights, hs, DataW.weightsEach]; exact .inr (.inl hz)
    · simp [DataW.weights, hs, DataW.weightsEach]; exact .inr (.inr hz)
end
end Go.Proofs.Ytilcdghliigngaa
namespace Go.Proofs.Ytilcdghliigngaa
set_option linter.unusedVariables false
set_option linter.unusedSimpArgs false
open Go.RowKit Go.Proofs.YtilcdghliigngaaGl Go.Proofs.YtilcdghliigngaaPm
abbrev RT (H : Type) (en : TypeId × Value → H) (W : World) := @Rds H en Try.prog W 0 (fun _ => true) true
theorem r88 {H : Type} {en : TypeId × Value → H} {W : World} : RT H en W 88 eEvt (fun _ => True) (fun _ => True) :=
  (rds_struct2 Try.underlying88 (by kernel_rfl) (by kernel_rfl) (rds_int Try.underlying3) (rds_int Try.underlying3)).map (fun p => (⟨p.1, p.2⟩ : Evt)) (fun _ => rfl) (fun _ _ => trivial) (fun _ _ => trivial)
theorem r27 {H : Type} {en : TypeId × Value → H} {W : World} : RT H en W 27 (fun l : (Option Addr × Nat) × List Evt => [.slice l.1.1 l.2.length l.1.2]) (fun l => RoL W l.1.1 eEvt l.2 ∧ l.2.length ≤ l.1.2) (fun _ => True) :=
  (rds_slice Try.underlying27 (fun _ => by kernel_rfl) r88).map id (fun _ => rfl) (fun _ h => ⟨h.1, h.2.1⟩) (fun _ _ => trivial)
set_option maxRecDepth 100000 in
theorem open_rds {H : Type} {en : TypeId × Value → H} {W : World} {t e : TypeId} {α : Type} {ok okW : (Option Addr × Nat) × List α → Prop} (hR : RT H en W t (fun l : (Option Addr × Nat) × List α => [.slice l.1.1 l.2.length l.1.2]) ok okW) (ht : Try.prog.underlying t = some (.slice e)) {r : Reach} {base : Nat} {v : Value} {d : DataW H} {p : List MemPlace}
    (hv : Value.okWide Try.prog W r base t v) (h : DataW.Trod en Try.prog W 0 (fun _ => true) true t v d p) : ∃ l : (Option Addr × Nat) × List α, v = .slice l.1.1 l.2.length l.1.2 ∧ ok l ∧ ((∀ z ∈ d.weights Try.prog t, z ≤ reachBytes) → okW l) := by
  obtain ⟨a, len, cap, rfl⟩ := Go.WideShapes.okWide_slice ht hv
  obtain ⟨fuel, hf⟩ := h
  obtain ⟨l, h1, h2, h3⟩ := hR fuel _ _ hf
  simp only [Value.cells, List.cons.injEq, and_true] at h1
  exact ⟨l, h1, h2, h3⟩
end Go.Proofs.Ytilcdghliigngaa
namespace Go.Proofs.Ytilcdghliigngaa
set_option linter.unusedVariables false
set_option linter.unusedSimpArgs false
open Go.ChangeShapes Go.WideShapes Go.ChangeAt Go.RowKit Go.Proofs.YtilcdghliigngaaGl Go.Proofs.YtilcdghliigngaaPm
set_option linter.unusedVariables false
theorem r70 {H : Type} {en : TypeId × Value → H} {W : World} : RT H en W 70 eTap (fun _ => True) (fun _ => True) :=
  (rds_struct3 Try.underlying70 (by kernel_rfl) (by kernel_rfl) (rds_int Try.underlying3) (rds_int Try.underlying3) (rds_int Try.underlying3)).map (fun p => (⟨p.1, p.2.1, p.2.2⟩ : Tap)) (fun _ => rfl) (fun _ _ => trivial) (fun _ _ => trivial)
theorem r67 {H : Type} {en : TypeId × Value → H} {W : World} : RT H en W 67 (fun l : (Option Addr × Nat) × List Tap => [.slice l.1.1 l.2.length l.1.2]) (fun l => RoL W l.1.1 eTap l.2 ∧ l.2.length ≤ l.1.2) (fun _ => True) :=
  (rds_slice Try.underlying67 (fun _ => by kernel_rfl) r70).map id (fun _ => rfl) (fun _ h => ⟨h.1, h.2.1⟩) (fun _ _ => trivial)
theorem motifCounts_own : ownKnob Try.prog.godebug = none := by kernel_rfl
theorem motifCounts_laid : laidOutB Try.prog = true := by kernel_rfl
set_option maxRecDepth 100000 in
theorem motifCounts_lifted (os : Os) (started : os.Started) (H : Type) (enc : TypeId × Value → H) :
    ReturnsInHanded {} Try.checked os 11 .any (Rows.motifCountsSpec.pre6 enc Try.prog Try.f11 Rows.motifCountsRow.domain false) (Rows.motifCountsSpec.post enc Try.prog Try.f11 false true false false) := by
  refine returnsInHanded_of_change_sized (C := Try.checked) motifCounts_own started (by kernel_rfl) Try.func11
    (ChangeSpec.witness6 (enc := enc) (C := Try.checked) false ⟨#[], #[.slice none 0 0, .int .u16 0, .int .u8 0, .slice none 0 0], []⟩ 8 (by kernel_rfl) (by kernel_rfl) (by kernel_rfl) (by kernel_rfl)) ?_
  intro W base args ds gs before hval0 hW hcnd hsz _
  have hval : ∀ (j : Nat) t v, Try.f11.params[j]? = some t → args[j]? = some v → Value.okWide Try.prog W .any base t v := hval0
  have hW' := hW
  obtain ⟨p, q, hA0, hV, rfl, hfz, hnd⟩ := hW
  have hA : DataW.TrodAll enc Try.prog W 0 (fun _ => true) true Try.f11.params.toList args.toList ds p := hA0
  rw [Try.params11] at hA hval
  obtain ⟨v0, vs0, d0, ds0, p0, q0, hargs, rfl, rfl, h0, r0⟩ := trodAll_cons hA
  obtain ⟨v1, vs1, d1, ds1, p1, q1, rfl, rfl, rfl, h1, r1⟩ := trodAll_cons r0
  obtain ⟨v2, vs2, d2, ds2, p2, q2, rfl, rfl, rfl, h2, r2⟩ := trodAll_cons r1
  obtain ⟨v3, vs3, d3, ds3, p3, q3, rfl, rfl, rfl, h3, r3⟩ := trodAll_cons r2
  obtain ⟨rfl, rfl, rfl⟩ := trodAll_nil r3
  obtain rfl : args = #[v0, v1, v2, v3] := by cases args; simp_all
  obtain ⟨rfl, rfl⟩ := trodVars_none hV
  have k0 := h0
  have lt0 : ∀ x ∈ p0, x.block < W.heap.size := by obtain ⟨m, hm⟩ := k0; exact DataW.trod_lt m _ _ _ hm
  obtain ⟨l0, e0', o0', s0⟩ := open_rds r67 Try.underlying67 (hval 0 67 v0 rfl rfl) h0
  subst e0'
  obtain ⟨a1, rfl, rfl, rfl, w1⟩ := open_int Try.underlying101 (hval 1 101 v1 rfl rfl) h1
  obtain ⟨a2, rfl, rfl, rfl, w2⟩ := open_int Try.underlying5 (hval 2 5 v2 rfl rfl) h2
  have k3 := h3
  have lt3 : ∀ x ∈ p3, x.block < W.heap.size := by obtain ⟨m, hm⟩ := k3; exact DataW.trod_lt m _ _ _ hm
  obtain ⟨l3, e3', o3', s3⟩ := open_rds r27 Try.underlying27 (hval 3 27 v3 rfl rfl) h3
  subst e3'
  clear hA0 hval0
  refine (counts_c a1 a2 _ _ l0.2 _ _ l3.2 W o0'.1 o3'.1 (bounds_u16 w1) (bounds_u8 w2)).mono fun e W' ⟨he, hs⟩ => ?_
  subst he
  have bel := hs.below
  exact ⟨_, rfl, _, _, _, [], _, [], hW', trodAll_mk1 (shut_bool Try.underlying4 _), (trodAll_cons_mk (Below.trod motifCounts_laid (by kernel_rfl) (of_decide_eq_true (by kernel_rfl)) k0 bel lt0) (trodAll_cons_mk (shut_int Try.underlying101 w1) (trodAll_cons_mk (shut_int Try.underlying5 w2) (trodAll_cons_mk (Below.trod motifCounts_laid (by kernel_rfl) (of_decide_eq_true (by kernel_rfl)) k3 bel lt3) trodAll_mk0)))), rfl, bel.frame _, fun h => by cases h⟩
theorem motifCounts_holds : Rows.MotifCountsSaid :=
  OpenClaim.holds_of_wide 11 Try.f11 rfl rfl rfl rfl rfl rfl rfl ⟨rfl, rfl, rfl, rfl, rfl⟩ rfl rfl rfl rfl rfl (by kernel_rfl) Try.func11 (by kernel_rfl)
    (of_decide_eq_true (by kernel_rfl)) (by unfold Func.isWrapper; rw [if_neg (of_decide_eq_false (by kernel_rfl))]; exact ⟨rfl, rfl⟩)
    (fun os started H enc _ => motifCounts_lifted os started H enc)
#print axioms motifCounts_holds
end Go.Proofs.Ytilcdghliigngaa
