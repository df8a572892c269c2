/- Part of a claim: the program logic, the contracts of the functions, their models. No condition. -/
import Derived.WalkKit
import Derived.OwnWalkIn
import Derived.TacticsInMore
import Derived.OrdersIn
import Derived.RangeFuncLeaves
import Derived.RangeFuncNested
import Derived.Maps.AppendAt
import Derived.Shelf.Abstract
import Derived.Test.YtilcdghliigngaaProg
import Derived.MapKept
import Derived.Laws.StructEq
import Derived.Laws.OwnMore
import Derived.RangeFuncRecord
import Derived.Lib.SliceRun
import Derived.Lib.AppendZeros
import Derived.Lib.AppendZerosOnto
import Derived.Lib.Overlaps
import Derived.Laws.Externs
import Derived.Test.YtilcdghliigngaaPh4
namespace Go.Proofs.Ytilcdghliigngaa
open Go.RowKit Go.Proofs.YtilcdghliigngaaGl Go.Proofs.YtilcdghliigngaaPm
set_option linter.unusedVariables false
set_option linter.unusedSimpArgs false
set_option linter.unusedSectionVars false
theorem stepV_gate {h v x : Int} (hh : 1 ≤ h ∧ h ≤ 1048576) (hx : 0 ≤ x ∧ x ≤ 1048576) : stepV (gateP h) v x = (if h ≤ x then 0 else x, decide (h ≤ x)) := by
  have e : tickV (gateP h) v x = x := by
    simp only [tickV, gateP, leakP, boundP]
    have h0 : v - (v * 256 : Int).tdiv 256 = 0 := by rw [Int.mul_tdiv_cancel v (by decide)]; omega
    simp only [show ¬ ((2 : Int) = 0) by decide, show ¬ ((2 : Int) = 1) by decide, if_false, h0]
    omega
  unfold stepV
  rw [e]
  by_cases c : h ≤ x
  · rw [if_neg (show ¬ x < (gateP h).th by show ¬ x < h; omega), if_neg (show ¬ (gateP h).rk = 1 by show ¬ (0 : Int) = 1; decide)]
    simp [c]; rfl
  · rw [if_pos (show x < (gateP h).th by show x < h; omega)]
    simp [c]
theorem sumI_le {α : Type} {f : α → Int} : ∀ {xs : List α}, (∀ x ∈ xs, f x ≤ 1) → sumI f xs ≤ (xs.length : Int)
  | [], _ => Int.le_refl _
  | x :: xs, h => by
    have h1 := h x (.head _)
    have h2 := sumI_le (f := f) (xs := xs) (fun y hy => h y (.tail _ hy))
    simp only [sumI, List.length_cons]; omega
theorem inX_one {ss : List Syn} {F : Nat → Nat → Bool} {idl : Nat → List Int} {k d : Nat} (hw : ∀ s ∈ ss, s.dst = (d : Int) → s.wt = 1) :
    0 ≤ inX ss F idl k d ∧ inX ss F idl k d ≤ (ss.length : Int) ∧ (1 ≤ inX ss F idl k d ↔ ∃ s ∈ ss, s.dst = (d : Int) ∧ s.dl ≤ (k : Int) ∧ srcF F idl ((k : Int) - s.dl).toNat s.src = true) := by
  have h01 : ∀ s ∈ ss, (0 : Int) ≤ (if s.dst = (d : Int) ∧ s.dl ≤ (k : Int) ∧ srcF F idl ((k : Int) - s.dl).toNat s.src = true then s.wt else 0) ∧ (if s.dst = (d : Int) ∧ s.dl ≤ (k : Int) ∧ srcF F idl ((k : Int) - s.dl).toNat s.src = true then s.wt else 0) ≤ 1 := fun s hs => by
    split
    · rename_i h; have := hw s hs h.1; omega
    · omega
  refine ⟨sumI_nonneg (fun s hs => (h01 s hs).1), sumI_le (fun s hs => (h01 s hs).2), ⟨fun h => ?_, fun ⟨s, hs, hc⟩ => ?_⟩⟩
  · refine Decidable.byContradiction fun hn => ?_
    have : inX ss F idl k d = 0 := sumI_zero (fun s hs => if_neg (fun hc => hn ⟨s, hs, hc⟩))
    omega
  · exact sumI_pos (fun s hs => (h01 s hs).1) hs (by rw [if_pos hc, hw s hs hc.1]; exact Int.le_refl _)
theorem sumI_at {f : Nat → Int} {d m : Nat} (hd : d < m) (h : ∀ j, j < m → j ≠ d → f j = 0) : sumI f (List.range m) = f d := by
  have e : sumI f (List.range m) = sumI (fun j => if j = d then f d else 0) (List.range m) := sumI_congr (fun j hj => by
    by_cases c : j = d
    · rw [if_pos c, c]
    · rw [if_neg c, h j (List.mem_range.1 hj) c])
  rw [e, sumI_range_one (d := d) (fun j hj => if_neg hj), if_pos hd, if_pos rfl]
theorem kq_inj {k q c q0 c0 : Nat} (hc : c < k) (hc0 : c0 < k) (e : k * q + c = k * q0 + c0) : q = q0 ∧ c = c0 := by
  have h1 : (k * q + c) / k = q := by rw [Nat.mul_add_div (by omega), Nat.div_eq_of_lt hc]; omega
  have h2 : (k * q0 + c0) / k = q0 := by rw [Nat.mul_add_div (by omega), Nat.div_eq_of_lt hc0]; omega
  have : q = q0 := by rw [← h1, ← h2, e]
  subst this
  exact ⟨rfl, by omega⟩
theorem kq_lt {s k q c : Nat} (hq : q < s) (hc : c < k) : k * q + c < s * k := by
  have : k * (q + 1) ≤ k * s := Nat.mul_le_mul_left k hq
  rw [Nat.mul_succ, Nat.mul_comm k s] at this; omega
theorem filt_none {N : Nat} {p : Nat → Bool} (h : ∀ d, d < N → ¬ p d = true) : (List.range N).filter p = [] := List.filter_eq_nil_iff.2 (fun d hd => h d (List.mem_range.1 hd))
theorem filt_one {a : Nat} {p : Nat → Bool} : ∀ {N : Nat}, a < N → (∀ d, d < N → (p d = true ↔ d = a)) → (List.range N).filter p = [a]
  | 0, h, _ => by omega
  | N + 1, h, hp => by
    rw [List.range_succ, List.filter_append]
    by_cases e : a = N
    · subst e
      rw [filt_none (fun d hd hc => by have := (hp d (by omega)).1 hc; omega)]
      simp [(hp a (by omega)).2 rfl]
    · rw [filt_one (N := N) (by omega) (fun d hd => hp d (by omega))]
      have : ¬ p N = true := fun hc => e ((hp N (by omega)).1 hc).symm
      simp [this]
def wantA (nx : List (List Int)) (st : Int) (ws : List Int) : Nat → Int
  | 0 => st
  | i + 1 => (nx.getD (wantA nx st ws i).toNat []).getD (ws.getD i 0).toNat 0
structure AutOK (nx : List (List Int)) (st : Int) (acc : List Bool) (ws : List Int) (k : Nat) : Prop where
  hs : 1 ≤ nx.length ∧ nx.length ≤ 32
  hk : 1 ≤ k ∧ k ≤ 16
  row : ∀ r ∈ nx, r.length = k
  val : ∀ r ∈ nx, ∀ x ∈ r, 0 ≤ x ∧ x < (nx.length : Int)
  st : 0 ≤ st ∧ st < (nx.length : Int)
  acc : acc.length = nx.length
  ws : ∀ x ∈ ws, 0 ≤ x ∧ x < (k : Int)
section
variable {nx : List (List Int)} {st : Int} {acc : List Bool} {ws : List Int} {k : Nat}
def autF (nx : List (List Int)) (st : Int) (acc : List Bool) (ws : List Int) (k t d : Nat) : Bool :=
  if d < nx.length then decide (t % 3 = 1 ∧ t / 3 ≤ ws.length ∧ wantA nx st ws (t / 3) = (d : Int))
  else if d < nx.length + nx.length * k then decide (t % 3 = 2 ∧ t / 3 < ws.length ∧ d = nx.length + (k * (wantA nx st ws (t / 3)).toNat + (ws.getD (t / 3) 0).toNat))
  else decide (t % 3 = 2 ∧ t / 3 ≤ ws.length ∧ acc.getD (wantA nx st ws (t / 3)).toNat false = true)
def idlA (ws : List Int) (k t : Nat) : List Int := (if t % 3 = 0 ∧ t / 3 < ws.length then [ws.getD (t / 3) 0] else []) ++ (if t = 0 then [(k : Int)] else [])
def autSs (nx : List (List Int)) (st : Int) (acc : List Bool) (k : Nat) : List Syn := ([⟨-1 - (k : Int), st, 1, 1⟩] ++ rowsTo nx.length k nx nx.length) ++ accTo nx.length k acc acc.length
def autN (nx : List (List Int)) (st : Int) (acc : List Bool) (k : Nat) : NetP := ⟨mNs nx.length k (nx.length + nx.length * k + 1), ((k + 1 : Nat) : Int), autSs nx st acc k⟩
namespace AutOK
variable (h : AutOK nx st acc ws k)
include h
theorem head : (nx.headD []).length = k := by
  cases nx with
  | nil => have := h.hs; simp at this
  | cons r nx => exact h.row r (.head _)
theorem rowAt {q : Nat} (hq : q < nx.length) : nx.getD q [] ∈ nx := by
  obtain ⟨r, hr⟩ : ∃ r, nx[q]? = some r := ⟨_, List.getElem?_eq_getElem hq⟩
  rw [getD_at hr]; exact List.mem_iff_getElem?.2 ⟨q, hr⟩
theorem rlen (q : Nat) : (nx.getD q []).length ≤ k ∧ (0 < (nx.getD q []).length → q < nx.length) := by
  by_cases hq : q < nx.length
  · exact ⟨Nat.le_of_eq (h.row _ (h.rowAt hq)), fun _ => hq⟩
  · have : nx.getD q [] = [] := by simp [List.getD, List.getElem?_eq_none (show nx.length ≤ q by omega)]
    rw [this]; exact ⟨Nat.zero_le _, fun h => by cases h⟩
theorem rval {q c : Nat} (hq : q < nx.length) (hc : c < k) : 0 ≤ (nx.getD q []).getD c 0 ∧ (nx.getD q []).getD c 0 < (nx.length : Int) := by
  have hm := h.rowAt hq
  have hl := h.row _ hm
  obtain ⟨x, hx⟩ : ∃ x, (nx.getD q [])[c]? = some x := ⟨_, List.getElem?_eq_getElem (by omega)⟩
  rw [getD_at hx]
  exact h.val _ hm x (List.mem_iff_getElem?.2 ⟨c, hx⟩)
theorem wsv (i : Nat) : 0 ≤ ws.getD i 0 ∧ ws.getD i 0 < (k : Int) := by
  by_cases hi : i < ws.length
  · obtain ⟨x, hx⟩ : ∃ x, ws[i]? = some x := ⟨_, List.getElem?_eq_getElem hi⟩
    rw [getD_at hx]; exact h.ws x (List.mem_iff_getElem?.2 ⟨i, hx⟩)
  · have : ws.getD i 0 = 0 := by simp [List.getD, List.getElem?_eq_none (show ws.length ≤ i by omega)]
    rw [this]; have := h.hk; omega
theorem want (i : Nat) : 0 ≤ wantA nx st ws i ∧ wantA nx st ws i < (nx.length : Int) := by
  induction i with
  | zero => exact h.st
  | succ i ih =>
    have := h.wsv i
    exact h.rval (by omega) (by omega)
theorem start_idl {t : Nat} : (k : Int) ∈ idlA ws k t ↔ t = 0 := by
  unfold idlA
  rw [List.mem_append]
  constructor
  · rintro (h1 | h1)
    · split at h1
      · have := List.mem_singleton.1 h1
        have := h.wsv (t / 3); omega
      · cases h1
    · split at h1
      · assumption
      · cases h1
  · intro h1; right; rw [if_pos h1]; exact List.mem_singleton.2 rfl
theorem sym_idl {t c : Nat} (hc : c < k) : (c : Int) ∈ idlA ws k t ↔ t % 3 = 0 ∧ t / 3 < ws.length ∧ (ws.getD (t / 3) 0).toNat = c := by
  have := h.wsv (t / 3)
  unfold idlA
  rw [List.mem_append]
  constructor
  · rintro (h1 | h1)
    · split at h1
      · rename_i h2
        have := List.mem_singleton.1 h1
        exact ⟨h2.1, h2.2, by omega⟩
      · cases h1
    · split at h1
      · have := List.mem_singleton.1 h1; omega
      · cases h1
  · rintro ⟨h1, h2, h3⟩; left; rw [if_pos ⟨h1, h2⟩]; exact List.mem_singleton.2 (by omega)
omit h in
theorem rows_mem {s k i : Nat} {nx : List (List Int)} {y : Syn} : y ∈ rowsTo s k nx i ↔ ∃ q c, q < i ∧ c < (nx.getD q []).length ∧ y ∈ cellS s k q c ((nx.getD q []).getD c 0) := by
  unfold rowsTo cellsTo
  constructor
  · intro hy
    obtain ⟨q, hq, h2⟩ := List.mem_flatMap.1 hy
    obtain ⟨c, hc, h3⟩ := List.mem_flatMap.1 h2
    exact ⟨q, c, List.mem_range.1 hq, List.mem_range.1 hc, h3⟩
  · rintro ⟨q, c, hq, hc, h3⟩
    exact List.mem_flatMap.2 ⟨q, List.mem_range.2 hq, List.mem_flatMap.2 ⟨c, List.mem_range.2 hc, h3⟩⟩
omit h in
theorem acc_mem {s k i : Nat} {y : Syn} : y ∈ accTo s k acc i ↔ ∃ q, q < i ∧ acc.getD q false = true ∧ y = ⟨(q : Int), ((s + s * k : Nat) : Int), 1, 1⟩ := by
  unfold accTo
  constructor
  · intro hy
    obtain ⟨q, hq, h2⟩ := List.mem_flatMap.1 hy
    unfold accS at h2
    split at h2
    · exact ⟨q, List.mem_range.1 hq, by assumption, List.mem_singleton.1 h2⟩
    · cases h2
  · rintro ⟨q, hq, hc, rfl⟩
    refine List.mem_flatMap.2 ⟨q, List.mem_range.2 hq, ?_⟩
    unfold accS; rw [if_pos hc]; exact List.mem_singleton.2 rfl
omit h in
theorem ss_mem {y : Syn} : y ∈ autSs nx st acc k ↔ y = ⟨-1 - (k : Int), st, 1, 1⟩ ∨ (∃ q c, q < nx.length ∧ c < (nx.getD q []).length ∧ (y = ⟨(q : Int), ((nx.length + k * q + c : Nat) : Int), 1, 1⟩ ∨ y = ⟨-1 - (c : Int), ((nx.length + k * q + c : Nat) : Int), 1, 2⟩ ∨ y = ⟨((nx.length + k * q + c : Nat) : Int), (nx.getD q []).getD c 0, 1, 2⟩)) ∨ ∃ q, q < acc.length ∧ acc.getD q false = true ∧ y = ⟨(q : Int), ((nx.length + nx.length * k : Nat) : Int), 1, 1⟩ := by
  unfold autSs
  rw [List.mem_append, List.mem_append, List.mem_singleton, rows_mem, acc_mem, or_assoc]
  simp only [cellS, List.mem_cons, List.not_mem_nil, or_false]
theorem wt1 {y : Syn} (hy : y ∈ autSs nx st acc k) : y.wt = 1 := by
  rcases ss_mem.1 hy with rfl | ⟨q, c, _, _, rfl | rfl | rfl⟩ | ⟨q, _, _, rfl⟩ <;> rfl
theorem ss_len : (autSs nx st acc k).length ≤ 1600 := by
  unfold autSs
  have h1 := h.hs; have h2 := h.hk
  have h3 : nx.length * (k * 3) ≤ 32 * (16 * 3) := Nat.mul_le_mul h1.2 (Nat.mul_le_mul_right 3 h2.2)
  have h4 : (accTo nx.length k acc acc.length).length ≤ acc.length := by
    unfold accTo
    rw [List.length_flatMap]
    have : ∀ n : Nat, ((List.range n).map (fun q => (accS nx.length k acc q).length)).sum ≤ n := fun n => by
      induction n with
      | zero => simp
      | succ n ih =>
        rw [List.range_succ, List.map_append, List.sum_append]
        have : (accS nx.length k acc n).length ≤ 1 := by unfold accS; split <;> simp
        simp only [List.map_cons, List.map_nil, List.sum_cons, List.sum_nil]; omega
    exact this _
  have h5 := h.acc
  rw [List.length_append, List.length_append, rowsTo_len h.row (Nat.le_refl _)]
  simp only [List.length_cons, List.length_nil]
  omega
omit h in
theorem src_in (F : Nat → Nat → Bool) (idl : Nat → List Int) (t c : Nat) : srcF F idl t (-1 - (c : Int)) = decide ((c : Int) ∈ idl t) := by
  unfold srcF
  rw [if_neg (by omega), show -1 - (-1 - (c : Int)) = (c : Int) by omega]
omit h in
theorem src_of (F : Nat → Nat → Bool) (idl : Nat → List Int) (t d : Nat) : srcF F idl t (d : Int) = F t d := by
  unfold srcF
  rw [if_pos (by omega), Int.toNat_natCast]
theorem at_state {t d : Nat} (hd : d < nx.length) : 1 ≤ inX (autSs nx st acc k) (autF nx st acc ws k) (idlA ws k) t d ↔ autF nx st acc ws k t d = true := by
  rw [(inX_one (fun s hs _ => h.wt1 hs)).2.2]
  have eF : autF nx st acc ws k t d = decide (t % 3 = 1 ∧ t / 3 ≤ ws.length ∧ wantA nx st ws (t / 3) = (d : Int)) := by unfold autF; rw [if_pos hd]
  rw [eF, decide_eq_true_eq]
  have hst := h.st
  constructor
  · rintro ⟨y, hy, h1, h2, h3⟩
    rcases ss_mem.1 hy with rfl | ⟨q, c, hq, hc, rfl | rfl | rfl⟩ | ⟨q, _, _, rfl⟩
    · dsimp only at h1 h2 h3
      rw [src_in, decide_eq_true_eq, h.start_idl] at h3
      have e : t = 1 := by omega
      subst e
      exact ⟨rfl, Nat.zero_le _, h1⟩
    · dsimp only at h1; omega
    · dsimp only at h1; omega
    · dsimp only at h1 h2 h3
      have hck : c < k := Nat.lt_of_lt_of_le hc (h.rlen q).1
      have hlt := kq_lt hq hck
      rw [src_of] at h3
      unfold autF at h3
      rw [if_neg (by omega), if_pos (by omega), decide_eq_true_eq] at h3
      have e2 : ((t : Int) - 2).toNat = t - 2 := by omega
      rw [e2] at h3
      obtain ⟨g1, g2, g3⟩ := h3
      have hw := h.wsv ((t - 2) / 3)
      obtain ⟨e3, e4⟩ := kq_inj hck (by omega) (show k * q + c = k * (wantA nx st ws ((t - 2) / 3)).toNat + (ws.getD ((t - 2) / 3) 0).toNat by omega)
      have e5 : t / 3 = (t - 2) / 3 + 1 := by omega
      refine ⟨by omega, by omega, ?_⟩
      rw [e5, wantA, ← e3, ← e4]; exact h1
    · dsimp only at h1; omega
  · rintro ⟨h1, h2, h3⟩
    by_cases h0 : t / 3 = 0
    · have e : t = 1 := by omega
      subst e
      refine ⟨_, ss_mem.2 (.inl rfl), h3, Int.le_refl _, ?_⟩
      dsimp only
      rw [src_in, decide_eq_true_eq, h.start_idl]; rfl
    · obtain ⟨i, hi⟩ : ∃ i, t / 3 = i + 1 := ⟨t / 3 - 1, by omega⟩
      have hw := h.want i; have hv := h.wsv i
      rw [hi, wantA] at h3
      have hq : (wantA nx st ws i).toNat < nx.length := by omega
      have hl := h.row _ (h.rowAt hq)
      have hlt := kq_lt (c := (ws.getD i 0).toNat) (k := k) hq (by omega)
      refine ⟨_, ss_mem.2 (.inr (.inl ⟨(wantA nx st ws i).toNat, (ws.getD i 0).toNat, hq, by omega, .inr (.inr rfl)⟩)), h3, by dsimp only; omega, ?_⟩
      dsimp only
      rw [src_of]
      unfold autF
      rw [if_neg (by omega), if_pos (by omega), decide_eq_true_eq]
      have e2 : ((t : Int) - 2).toNat = t - 2 := by omega
      have e3 : (t - 2) / 3 = i := by omega
      rw [e2, e3]
      exact ⟨by omega, by omega, by omega⟩
theorem at_trans {t q c : Nat} (hq : q < nx.length) (hc : c < k) : inX (autSs nx st acc k) (autF nx st acc ws k) (idlA ws k) t (nx.length + k * q + c) = (if 1 ≤ t ∧ autF nx st acc ws k (t - 1) q = true then 1 else 0) + (if 2 ≤ t ∧ (c : Int) ∈ idlA ws k (t - 2) then 1 else 0) := by
  have hst := h.st
  have hlt := kq_lt hq hc
  unfold inX autSs
  rw [sumI_app, sumI_app]
  have eA : ∀ f : Syn → Int, (∀ y ∈ accTo nx.length k acc acc.length, f y = 0) → sumI f (accTo nx.length k acc acc.length) = 0 := fun f hf => sumI_zero hf
  rw [eA _ (fun y hy => by
    obtain ⟨q', _, _, rfl⟩ := acc_mem.1 hy
    exact if_neg (fun e => by have := e.1; dsimp only at this; omega))]
  have eS : ∀ f : Syn → Int, f ⟨-1 - (k : Int), st, 1, 1⟩ = 0 → sumI f [⟨-1 - (k : Int), st, 1, 1⟩] = 0 := fun f hf => by simp only [sumI, hf]; rfl
  rw [eS _ (if_neg (fun e => by have := e.1; dsimp only at this; omega))]
  unfold rowsTo
  have hne : ∀ q' c', q' < nx.length → c' < k → (q' ≠ q ∨ c' ≠ c) → ∀ y ∈ cellS nx.length k q' c' ((nx.getD q' []).getD c' 0), ¬ y.dst = ((nx.length + k * q + c : Nat) : Int) := fun q' c' h1 h2 h3 y hy e => by
    have hv := h.rval h1 h2
    have : ¬ (k * q' + c' = k * q + c) := fun e' => by have := kq_inj h2 hc e'; omega
    simp only [cellS, List.mem_cons, List.not_mem_nil, or_false] at hy
    rcases hy with rfl | rfl | rfl <;> (dsimp only at e; omega)
  rw [sumI_fm, sumI_at hq]
  · unfold cellsTo
    rw [sumI_fm, sumI_at (d := c) (by rw [h.row _ (h.rowAt hq)]; exact hc)]
    · simp only [cellS, sumI]
      have hv := h.rval hq hc
      rw [if_neg (show ¬ ((nx.getD q []).getD c 0 = ((nx.length + k * q + c : Nat) : Int) ∧ _) from fun e => by have := e.1; omega)]
      simp only [true_and]
      rw [src_in]
      have e1 : ((t : Int) - 1).toNat = t - 1 := by omega
      have e2 : ((t : Int) - 2).toNat = t - 2 := by omega
      rw [src_of, e1, e2]
      have a1 : ((1 : Int) ≤ (t : Int)) ↔ 1 ≤ t := by omega
      have a2 : ((2 : Int) ≤ (t : Int)) ↔ 2 ≤ t := by omega
      simp only [a1, a2, decide_eq_true_eq]
      omega
    · intro c' hc' hn
      exact sumI_zero (fun y hy => if_neg (fun e => hne q c' hq (Nat.lt_of_lt_of_le hc' (h.rlen q).1) (.inr hn) y hy e.1))
  · intro q' hq' hn
    unfold cellsTo
    rw [sumI_fm]
    exact sumI_zero (fun c' hc' => sumI_zero (fun y hy => if_neg (fun e => hne q' c' hq' (Nat.lt_of_lt_of_le (List.mem_range.1 hc') (h.rlen q').1) (.inl hn) y hy e.1)))
theorem at_trans2 {t q c : Nat} (hq : q < nx.length) (hc : c < k) : 2 ≤ inX (autSs nx st acc k) (autF nx st acc ws k) (idlA ws k) t (nx.length + k * q + c) ↔ autF nx st acc ws k t (nx.length + k * q + c) = true := by
  have hlt := kq_lt hq hc
  have eF : autF nx st acc ws k t (nx.length + k * q + c) = decide (t % 3 = 2 ∧ t / 3 < ws.length ∧ nx.length + k * q + c = nx.length + (k * (wantA nx st ws (t / 3)).toNat + (ws.getD (t / 3) 0).toNat)) := by unfold autF; rw [if_neg (by omega), if_pos (by omega)]
  have eQ : autF nx st acc ws k (t - 1) q = decide ((t - 1) % 3 = 1 ∧ (t - 1) / 3 ≤ ws.length ∧ wantA nx st ws ((t - 1) / 3) = (q : Int)) := by unfold autF; rw [if_pos hq]
  rw [h.at_trans hq hc, eF, decide_eq_true_eq]
  simp only [eQ, decide_eq_true_eq, h.sym_idl hc]
  have hw := h.want (t / 3); have hv := h.wsv (t / 3)
  constructor
  · intro h2
    by_cases c1 : 1 ≤ t ∧ (t - 1) % 3 = 1 ∧ (t - 1) / 3 ≤ ws.length ∧ wantA nx st ws ((t - 1) / 3) = (q : Int)
    · by_cases c2 : 2 ≤ t ∧ (t - 2) % 3 = 0 ∧ (t - 2) / 3 < ws.length ∧ (ws.getD ((t - 2) / 3) 0).toNat = c
      · obtain ⟨b1, b2, b3, b4⟩ := c1
        obtain ⟨d1, d2, d3, d4⟩ := c2
        have e1 : (t - 1) / 3 = t / 3 := by omega
        have e2 : (t - 2) / 3 = t / 3 := by omega
        rw [e1] at b4; rw [e2] at d3 d4
        refine ⟨by omega, d3, ?_⟩
        rw [b4, d4, Int.toNat_natCast]; omega
      · rw [if_neg c2] at h2; split at h2 <;> omega
    · rw [if_neg c1] at h2; split at h2 <;> omega
  · rintro ⟨h1, h2, h3⟩
    obtain ⟨e3, e4⟩ := kq_inj hc (by omega) (show k * q + c = k * (wantA nx st ws (t / 3)).toNat + (ws.getD (t / 3) 0).toNat by omega)
    have e1 : (t - 1) / 3 = t / 3 := by omega
    have e2 : (t - 2) / 3 = t / 3 := by omega
    rw [e1, e2, if_pos ⟨by omega, by omega, by omega, by omega⟩, if_pos ⟨by omega, by omega, h2, e4.symm⟩]; decide
theorem at_acc {t : Nat} : 1 ≤ inX (autSs nx st acc k) (autF nx st acc ws k) (idlA ws k) t (nx.length + nx.length * k) ↔ autF nx st acc ws k t (nx.length + nx.length * k) = true := by
  rw [(inX_one (fun s hs _ => h.wt1 hs)).2.2]
  have eF : autF nx st acc ws k t (nx.length + nx.length * k) = decide (t % 3 = 2 ∧ t / 3 ≤ ws.length ∧ acc.getD (wantA nx st ws (t / 3)).toNat false = true) := by unfold autF; rw [if_neg (by omega), if_neg (by omega)]
  have eQ : ∀ q, q < nx.length → autF nx st acc ws k (t - 1) q = decide ((t - 1) % 3 = 1 ∧ (t - 1) / 3 ≤ ws.length ∧ wantA nx st ws ((t - 1) / 3) = (q : Int)) := fun q hq => by unfold autF; rw [if_pos hq]
  have e1 : ((t : Int) - 1).toNat = t - 1 := by omega
  rw [eF, decide_eq_true_eq]
  have hst := h.st; have ha := h.acc
  constructor
  · rintro ⟨y, hy, h1, h2, h3⟩
    rcases ss_mem.1 hy with rfl | ⟨q, c, hq, hc, rfl | rfl | rfl⟩ | ⟨q, hq, hc, rfl⟩
    · dsimp only at h1; omega
    · have := kq_lt hq (Nat.lt_of_lt_of_le hc (h.rlen q).1); dsimp only at h1; omega
    · have := kq_lt hq (Nat.lt_of_lt_of_le hc (h.rlen q).1); dsimp only at h1; omega
    · have := h.rval hq (Nat.lt_of_lt_of_le hc (h.rlen q).1); dsimp only at h1; omega
    · dsimp only at h1 h2 h3
      rw [src_of, e1, eQ q (by omega), decide_eq_true_eq] at h3
      obtain ⟨g1, g2, g3⟩ := h3
      have e2 : (t - 1) / 3 = t / 3 := by omega
      rw [e2] at g2 g3
      exact ⟨by omega, g2, by rw [g3, Int.toNat_natCast]; exact hc⟩
  · rintro ⟨h1, h2, h3⟩
    have hw := h.want (t / 3)
    refine ⟨_, ss_mem.2 (.inr (.inr ⟨(wantA nx st ws (t / 3)).toNat, by omega, h3, rfl⟩)), rfl, by dsimp only; omega, ?_⟩
    dsimp only
    have e2 : (t - 1) / 3 = t / 3 := by omega
    rw [src_of, e1, eQ _ (by omega), decide_eq_true_eq, e2]
    exact ⟨by omega, h2, by omega⟩
end AutOK
end
end Go.Proofs.Ytilcdghliigngaa
namespace Go.Proofs.Ytilcdghliigngaa
open Go.RowKit Go.Proofs.YtilcdghliigngaaGl Go.Proofs.YtilcdghliigngaaPm
set_option linter.unusedVariables false
set_option linter.unusedSimpArgs false
set_option linter.unusedSectionVars false
section
variable {nx : List (List Int)} {st : Int} {acc : List Bool} {ws : List Int} {k : Nat}
def autV (nx : List (List Int)) (st : Int) (acc : List Bool) (ws : List Int) (k : Nat) : Nat → Nat → Int
  | 0, _ => 0
  | t + 1, d => if hN nx.length k d ≤ inX (autSs nx st acc k) (autF nx st acc ws k) (idlA ws k) t d then 0 else inX (autSs nx st acc k) (autF nx st acc ws k) (idlA ws k) t d
def blkA (nx : List (List Int)) (st : Int) (acc : List Bool) (ws : List Int) (k i : Nat) : List Evt :=
  [⟨((3 * i + 1 : Nat) : Int), wantA nx st ws i⟩] ++ ((if i < ws.length then [⟨((3 * i + 2 : Nat) : Int), ((nx.length + (k * (wantA nx st ws i).toNat + (ws.getD i 0).toNat) : Nat) : Int)⟩] else []) ++ (if acc.getD (wantA nx st ws i).toNat false = true then [⟨((3 * i + 2 : Nat) : Int), ((nx.length + nx.length * k : Nat) : Int)⟩] else []))
def outA (nx : List (List Int)) (st : Int) (acc : List Bool) (ws : List Int) (k : Nat) : List Evt := (List.range (ws.length + 1)).flatMap (blkA nx st acc ws k)
def evA (ws : List Int) (k : Nat) : List Evt := insI (evsW ws ws.length) (min 1 ws.length) ⟨0, (k : Int)⟩
namespace AutOK
variable (h : AutOK nx st acc ws k)
include h
theorem fires {t d : Nat} (hd : d < nx.length + nx.length * k + 1) : autF nx st acc ws k t d = decide (hN nx.length k d ≤ inX (autSs nx st acc k) (autF nx st acc ws k) (idlA ws k) t d) := by
  have key : ∀ {b : Bool} {p : Prop} [Decidable p], (p ↔ b = true) → b = decide p := fun {b p} _ e => by
    by_cases c : p
    · rw [e.1 c, decide_eq_true c]
    · rw [decide_eq_false c]
      cases b with
      | false => rfl
      | true => exact absurd (e.2 rfl) c
  refine key ?_
  unfold hN
  have hk := h.hk
  by_cases c1 : d < nx.length
  · rw [if_neg (by omega)]; exact h.at_state c1
  · by_cases c2 : d < nx.length + nx.length * k
    · rw [if_pos ⟨by omega, c2⟩]
      have hc : (d - nx.length) % k < k := Nat.mod_lt _ (by omega)
      have hq : (d - nx.length) / k < nx.length := (Nat.div_lt_iff_lt_mul (by omega)).2 (by omega)
      have e : d = nx.length + k * ((d - nx.length) / k) + (d - nx.length) % k := by
        have := Nat.div_add_mod (d - nx.length) k; omega
      have := h.at_trans2 (t := t) hq hc
      rw [← e] at this; exact this
    · have e : d = nx.length + nx.length * k := by omega
      rw [if_neg (by omega), e]; exact h.at_acc
theorem idl_ok (t : Nat) : (idlA ws k t).Pairwise (· < ·) ∧ ∀ i ∈ idlA ws k t, wi i 0 (((k + 1 : Nat) : Int) - 1) := by
  have hv := h.wsv (t / 3)
  unfold idlA wi
  by_cases c1 : t % 3 = 0 ∧ t / 3 < ws.length <;> by_cases c2 : t = 0
  · rw [if_pos c1, if_pos c2]
    refine ⟨?_, fun i hi => ?_⟩
    · simp only [List.cons_append, List.nil_append, List.pairwise_cons, List.mem_singleton, List.not_mem_nil, false_implies, implies_true, List.Pairwise.nil, and_true]
      intro a ha; omega
    · simp only [List.cons_append, List.nil_append, List.mem_cons, List.not_mem_nil, or_false] at hi; omega
  · rw [if_pos c1, if_neg c2]
    exact ⟨by simp, fun i hi => by simp only [List.append_nil, List.mem_singleton] at hi; omega⟩
  · rw [if_neg c1, if_pos c2]
    exact ⟨by simp, fun i hi => by simp only [List.nil_append, List.mem_singleton] at hi; omega⟩
  · rw [if_neg c1, if_neg c2]
    exact ⟨by simp, fun i hi => by simp at hi⟩
omit h in
theorem ev_blocks : ∀ m, m + 1 ≤ ws.length → evF (idlA ws k) 0 (3 * (m + 1)) = evW ws 0 :: (⟨0, (k : Int)⟩ :: (List.range m).map (fun j => evW ws (j + 1)))
  | 0, hm => by
    simp only [evF, idlA, evW]
    rw [if_pos (by constructor <;> first | trivial | omega)]
    simp
  | m + 1, hm => by
    have e : 3 * (m + 1 + 1) = 3 * (m + 1) + 1 + 1 + 1 := by omega
    rw [e, evF_app, evF_app, evF_app, ev_blocks m (by omega), List.range_succ, List.map_append]
    have e1 : idlA ws k (0 + 3 * (m + 1)) = [ws.getD (m + 1) 0] := by
      unfold idlA
      have : (0 + 3 * (m + 1)) / 3 = m + 1 := by omega
      rw [this, if_pos ⟨by omega, by omega⟩, if_neg (by omega)]; rfl
    have e2 : idlA ws k (0 + (3 * (m + 1) + 1)) = [] := by
      unfold idlA
      rw [if_neg (fun c => by omega), if_neg (by omega)]; rfl
    have e3 : idlA ws k (0 + (3 * (m + 1) + 1 + 1)) = [] := by
      unfold idlA
      rw [if_neg (fun c => by omega), if_neg (by omega)]; rfl
    rw [e1, e2, e3]
    simp [evW]
omit h in
theorem evF_eq : evF (idlA ws k) 0 (3 * ws.length + 20) = evA ws k := by
  unfold evA
  rcases Nat.eq_zero_or_pos ws.length with h0 | h0
  · rw [h0, show 3 * 0 + 20 = 1 + 19 from rfl, evF_more (T := 1) (fun t ht => by
      unfold idlA
      rw [if_neg (by omega), if_neg (by omega)]; rfl)]
    simp [evF, idlA, h0, insI, evsW]
  · obtain ⟨m, hm⟩ : ∃ m, ws.length = m + 1 := ⟨ws.length - 1, by omega⟩
    rw [evF_more (T := 3 * ws.length) (fun t ht => by
      unfold idlA
      rw [if_neg (by omega), if_neg (by omega)]; rfl)]
    rw [hm, ev_blocks m (by omega), show min 1 (m + 1) = 1 by omega]
    unfold insI evsW
    rw [List.range_succ_eq_map]
    simp [List.map_map, Function.comp_def]
theorem runO (hs8 : nx.length ≤ 8) (hk4 : k ≤ 4) (hl : ws.length ≤ 40) : runN ⟨(autN nx st acc k).ns, (autN nx st acc k).inp, (autN nx st acc k).ss⟩ (evA ws k) (3 * ws.length + 20) = some (outF (autF nx st acc ws k) (nx.length + nx.length * k + 1) (3 * ws.length + 20)) := by
  have hln : (mNs nx.length k (nx.length + nx.length * k + 1)).length = nx.length + nx.length * k + 1 := mNs_len _ _ _
  have hsk : nx.length * k ≤ 8 * 4 := Nat.mul_le_mul hs8 hk4
  have hX : ∀ t d, 0 ≤ inX (autSs nx st acc k) (autF nx st acc ws k) (idlA ws k) t d ∧ inX (autSs nx st acc k) (autF nx st acc ws k) (idlA ws k) t d ≤ 1600 := fun t d => by
    have h1 := inX_one (ss := autSs nx st acc k) (F := autF nx st acc ws k) (idl := idlA ws k) (k := t) (d := d) (fun s hs _ => h.wt1 hs)
    have h2 := h.ss_len
    exact ⟨h1.1, by have := h1.2.1; omega⟩
  have hT : (3 * ws.length + 20) * (nx.length + nx.length * k + 1) ≤ 140 * 41 := Nat.mul_le_mul (by omega) (by omega)
  have hr := sim_run (ns := mNs nx.length k (nx.length + nx.length * k + 1)) (ip := ((k + 1 : Nat) : Int)) (ss := autSs nx st acc k) (F := autF nx st acc ws k) (idl := idlA ws k) (V := autV nx st acc ws k) (T := 3 * ws.length + 20)
    ⟨fun p hp => by
      obtain ⟨j, _, rfl⟩ := List.mem_map.1 hp
      exact ⟨by unfold hN; split <;> decide, rfl⟩,
     fun s hs => by
      rw [hln]
      have h4 := h.st; have h5 := h.acc
      rcases ss_mem.1 hs with rfl | ⟨q, c, hq, hc, rfl | rfl | rfl⟩ | ⟨q, hq, hc, rfl⟩
      · dsimp only; omega
      · have := kq_lt hq (Nat.lt_of_lt_of_le hc (h.rlen q).1); dsimp only; omega
      · have := kq_lt hq (Nat.lt_of_lt_of_le hc (h.rlen q).1); dsimp only; omega
      · have := kq_lt hq (Nat.lt_of_lt_of_le hc (h.rlen q).1); have := h.rval hq (Nat.lt_of_lt_of_le hc (h.rlen q).1); dsimp only; omega
      · dsimp only; omega,
     fun t => ⟨(h.idl_ok t).1.imp (fun h => by omega), fun i hi => by have := (h.idl_ok t).2 i hi; unfold wi at this; omega⟩⟩
    (fun d => rfl)
    (fun t d _ hd => by have := hX t d; omega)
    (fun t d p _ hp => by
      obtain ⟨hd, e⟩ := List.getElem?_eq_some_iff.1 hp
      rw [hln] at hd
      have : p = gateP (hN nx.length k d) := by rw [← e]; simp [mNs]
      subst this
      have := hX t d
      rw [stepV_gate (by unfold hN; split <;> omega) (by omega), ← h.fires hd]; rfl)
    (by rw [hln]; omega)
  rw [hln, evF_eq] at hr
  exact hr
theorem out_none {t : Nat} (ht : t % 3 = 0 ∨ ws.length < t / 3) : (List.range (nx.length + nx.length * k + 1)).filter (autF nx st acc ws k t) = [] := filt_none (fun d _ hF => by
  unfold autF at hF
  split at hF
  · have := (decide_eq_true_eq.mp hF); omega
  · split at hF
    · have := (decide_eq_true_eq.mp hF); omega
    · have := (decide_eq_true_eq.mp hF); omega)
theorem out_block {i : Nat} (hi : i ≤ ws.length) : ((List.range (nx.length + nx.length * k + 1)).filter (autF nx st acc ws k (3 * i))).map (fun d : Nat => (⟨((3 * i : Nat) : Int), (d : Int)⟩ : Evt)) ++ (((List.range (nx.length + nx.length * k + 1)).filter (autF nx st acc ws k (3 * i + 1))).map (fun d : Nat => (⟨((3 * i + 1 : Nat) : Int), (d : Int)⟩ : Evt)) ++ ((List.range (nx.length + nx.length * k + 1)).filter (autF nx st acc ws k (3 * i + 2))).map (fun d : Nat => (⟨((3 * i + 2 : Nat) : Int), (d : Int)⟩ : Evt))) = blkA nx st acc ws k i := by
  have hw := h.want i; have hv := h.wsv i
  rw [h.out_none (t := 3 * i) (.inl (by omega)), filt_one (a := (wantA nx st ws i).toNat) (by omega) (fun d hd => ?_), List.range_succ, List.filter_append]
  · unfold blkA
    have hlt := kq_lt (s := nx.length) (q := (wantA nx st ws i).toNat) (k := k) (c := (ws.getD i 0).toNat) (by omega) (by omega)
    have e1 : (List.range (nx.length + nx.length * k)).filter (autF nx st acc ws k (3 * i + 2)) = if i < ws.length then [nx.length + (k * (wantA nx st ws i).toNat + (ws.getD i 0).toNat)] else [] := by
      have e5 : (3 * i + 2) / 3 = i := by omega
      by_cases c : i < ws.length
      · rw [if_pos c]
        refine filt_one (by omega) (fun d hd => ?_)
        unfold autF
        rw [e5]
        by_cases c1 : d < nx.length
        · rw [if_pos c1, decide_eq_true_eq]; omega
        · rw [if_neg c1, if_pos hd, decide_eq_true_eq]; omega
      · rw [if_neg c]
        refine filt_none (fun d hd => ?_)
        unfold autF
        rw [e5]
        by_cases c1 : d < nx.length
        · rw [if_pos c1, decide_eq_true_eq]; omega
        · rw [if_neg c1, if_pos hd, decide_eq_true_eq]; omega
    have e2 : autF nx st acc ws k (3 * i + 2) (nx.length + nx.length * k) = acc.getD (wantA nx st ws i).toNat false := by
      unfold autF
      rw [if_neg (by omega), if_neg (by omega), show (3 * i + 2) / 3 = i by omega]
      simp [hi]
    rw [e1, List.map_append, List.map_nil, List.nil_append]
    congr 1
    · simp; omega
    · congr 1
      · split <;> rfl
      · by_cases c : acc.getD (wantA nx st ws i).toNat false = true
        · rw [if_pos c]; simp only [List.filter_cons, e2, c, if_true, List.filter_nil, List.map_cons, List.map_nil]
        · have c' : acc.getD (wantA nx st ws i).toNat false = false := by simpa using c
          rw [if_neg c, List.filter_cons, e2, c', if_neg (by decide)]; rfl
  · unfold autF
    rw [show (3 * i + 1) / 3 = i by omega]
    by_cases c1 : d < nx.length
    · rw [if_pos c1, decide_eq_true_eq]; omega
    · rw [if_neg c1]
      split <;> (rw [decide_eq_true_eq]; omega)
theorem out_blocks : ∀ m, m ≤ ws.length + 1 → outF (autF nx st acc ws k) (nx.length + nx.length * k + 1) (3 * m) = (List.range m).flatMap (blkA nx st acc ws k)
  | 0, _ => rfl
  | m + 1, hm => by
    rw [show 3 * (m + 1) = 3 * m + 1 + 1 + 1 by omega, outF_next, outF_next, outF_next, out_blocks m (by omega), List.range_succ (n := m), List.flatMap_append, List.append_assoc, List.append_assoc]
    congr 1
    rw [h.out_block (i := m) (by omega)]; simp
theorem out_more : ∀ f, outF (autF nx st acc ws k) (nx.length + nx.length * k + 1) (3 * (ws.length + 1) + f) = outA nx st acc ws k
  | 0 => h.out_blocks _ (Nat.le_refl _)
  | f + 1 => by
    rw [← Nat.add_assoc, outF_next, out_more f, h.out_none (.inr (by omega))]; simp
theorem run (hs8 : nx.length ≤ 8) (hk4 : k ≤ 4) (hl : ws.length ≤ 40) : runN ⟨(autN nx st acc k).ns, (autN nx st acc k).inp, (autN nx st acc k).ss⟩ (evA ws k) (3 * ws.length + 20) = some (outA nx st acc ws k) := by
  rw [h.runO hs8 hk4 hl, show 3 * ws.length + 20 = 3 * (ws.length + 1) + 17 by omega, h.out_more]
end AutOK
end
end Go.Proofs.Ytilcdghliigngaa
namespace Go.Proofs.Ytilcdghliigngaa
open Go.RowKit Go.Proofs.YtilcdghliigngaaGl Go.Proofs.YtilcdghliigngaaPm
set_option linter.unusedVariables false
set_option linter.unusedSimpArgs false
set_option linter.unusedSectionVars false
section
variable {nx : List (List Int)} {st : Int} {acc : List Bool} {ws : List Int} {k : Nat}
namespace AutOK
variable (h : AutOK nx st acc ws k)
theorem out_len : (outA nx st acc ws k).length ≤ 3 * (ws.length + 1) := by
  unfold outA
  have : ∀ m : Nat, ((List.range m).flatMap (blkA nx st acc ws k)).length ≤ 3 * m := fun m => by
    induction m with
    | zero => simp
    | succ m ih =>
      rw [List.range_succ, List.flatMap_append, List.length_append]
      have : ([m].flatMap (blkA nx st acc ws k)).length ≤ 3 := by
        rw [List.flatMap_cons, List.flatMap_nil, List.append_nil]
        unfold blkA; split <;> split <;> simp
      omega
  exact this _
end AutOK
end
end Go.Proofs.Ytilcdghliigngaa
namespace Go.Proofs.Ytilcdghliigngaa
open Go.RowKit Go.Proofs.YtilcdghliigngaaGl Go.Proofs.YtilcdghliigngaaPm
set_option linter.unusedVariables false
set_option linter.unusedSimpArgs false
end Go.Proofs.Ytilcdghliigngaa
namespace Go.Proofs.Ytilcdghliigngaa
open Go.RowKit Go.Proofs.YtilcdghliigngaaGl Go.Proofs.YtilcdghliigngaaPm
set_option linter.unusedVariables false
set_option linter.unusedSimpArgs false
end Go.Proofs.Ytilcdghliigngaa
namespace Go.Proofs.Ytilcdghliigngaa
open Go.Proofs.YtilcdghliigngaaPm
set_option linter.unusedVariables false
set_option linter.unusedSimpArgs false
set_option linter.unusedSectionVars false
inductive WayE (g : List Edg) (s : Nat) : Nat → Nat → Prop
  | start : WayE g s 0 s
  | step {t u : Nat} {e : Edg} : WayE g s t u → e ∈ g → e.src = (u : Int) → WayE g s (t + e.len.toNat) e.dst.toNat
theorem nat_least {P : Nat → Prop} (h : ∃ n, P n) : ∃ n, P n ∧ ∀ m, P m → n ≤ m := by
  obtain ⟨n, hn⟩ := h
  induction n using Nat.strongRecOn with
  | ind n ih =>
    by_cases c : ∃ m, m < n ∧ P m
    · obtain ⟨m, h1, h2⟩ := c; exact ih m h1 h2
    · exact ⟨n, hn, fun m hm => Nat.le_of_not_lt fun hlt => c ⟨m, hlt, hm⟩⟩
open Classical in
noncomputable def dst (g : List Edg) (s d : Nat) : Int := if h : ∃ t, WayE g s t d then (((nat_least h).choose : Nat) : Int) else -1
theorem dst_spec (g : List Edg) (s d : Nat) : (dst g s d = -1 ∧ ∀ t, ¬ WayE g s t d) ∨ ∃ t : Nat, dst g s d = (t : Int) ∧ WayE g s t d ∧ ∀ m, WayE g s m d → t ≤ m := by
  unfold dst
  by_cases h : ∃ t, WayE g s t d
  · right
    rw [dif_pos h]
    exact ⟨_, rfl, (nat_least h).choose_spec⟩
  · left
    rw [dif_neg h]
    exact ⟨rfl, fun t ht => h ⟨t, ht⟩⟩
structure GOK (g : List Edg) (s v : Nat) : Prop where
  hv : 1 ≤ v ∧ v ≤ 40
  hs : s < v
  hl : g.length ≤ 120
  he : ∀ e ∈ g, 0 ≤ e.src ∧ e.src < (v : Int) ∧ 0 ≤ e.dst ∧ e.dst < (v : Int) ∧ 1 ≤ e.len ∧ e.len ≤ 16
section
variable {g : List Edg} {s v : Nat}
theorem dst_of {t d : Nat} (h : WayE g s t d) : 0 ≤ dst g s d ∧ dst g s d ≤ (t : Int) := by
  rcases dst_spec g s d with ⟨_, h2⟩ | ⟨t', h1, h2, h3⟩
  · exact absurd h (h2 t)
  · have := h3 t h; omega
theorem dst_reach {d : Nat} (h : 0 ≤ dst g s d) : ∃ t : Nat, dst g s d = (t : Int) ∧ WayE g s t d := by
  rcases dst_spec g s d with ⟨h1, h2⟩ | ⟨t', h1, h2, h3⟩
  · omega
  · exact ⟨t', h1, h2⟩
namespace GOK
variable (h : GOK g s v)
include h
theorem p1 {e : Edg} (he : e ∈ g) (h0 : 0 ≤ dst g s e.src.toNat) : 0 ≤ dst g s e.dst.toNat ∧ dst g s e.dst.toNat ≤ dst g s e.src.toNat + e.len := by
  obtain ⟨t, h1, h2⟩ := dst_reach h0
  have hb := h.he e he
  have := dst_of (WayE.step h2 he (by omega)); omega
theorem p2 {d : Nat} (h0 : 0 ≤ dst g s d) : (d = s ∧ dst g s d = 0) ∨ ∃ e ∈ g, e.dst = (d : Int) ∧ 0 ≤ dst g s e.src.toNat ∧ dst g s e.src.toNat + e.len = dst g s d := by
  obtain ⟨t, h1, h2⟩ := dst_reach h0
  cases h2 with
  | start => exact .inl ⟨rfl, by omega⟩
  | step hr he hs =>
    rename_i t' u e
    right
    have hb := h.he e he
    have h3 := dst_of hr
    have hu : e.src.toNat = u := by omega
    refine ⟨e, he, by omega, by rw [hu]; exact h3.1, ?_⟩
    have := (h.p1 he (by rw [hu]; exact h3.1)).2
    rw [hu] at this ⊢
    omega
theorem lt {d : Nat} (h0 : 0 ≤ dst g s d) : d < v := by
  rcases h.p2 h0 with ⟨rfl, _⟩ | ⟨e, he, h1, _⟩
  · exact h.hs
  · have := h.he e he; omega
theorem pos {d : Nat} (hd : d ≠ s) (h0 : 0 ≤ dst g s d) : 1 ≤ dst g s d := by
  rcases h.p2 h0 with ⟨h1, _⟩ | ⟨e, he, h1, h2, h3⟩
  · exact absurd h1 hd
  · have := h.he e he; omega
end GOK
theorem filter_lt {p q : Nat → Bool} : ∀ {l : List Nat} {x : Nat}, (∀ y, p y = true → q y = true) → x ∈ l → q x = true → ¬ p x = true → (l.filter p).length < (l.filter q).length
  | [], x, _, hx, _, _ => by cases hx
  | y :: l, x, h, hx, h1, h2 => by
    have hle : ∀ l : List Nat, (l.filter p).length ≤ (l.filter q).length := fun l => by
      induction l with
      | nil => exact Nat.le_refl _
      | cons z l ih =>
        rw [List.filter_cons, List.filter_cons]
        by_cases c : p z = true
        · rw [if_pos c, if_pos (h z c)]; simpa using ih
        · rw [if_neg c]; split <;> (try simp only [List.length_cons]) <;> omega
    rw [List.filter_cons, List.filter_cons]
    rcases List.mem_cons.1 hx with rfl | hx
    · rw [if_neg h2, if_pos h1]; have := hle l; simp; omega
    · have ih := filter_lt (l := l) h hx h1 h2
      by_cases c : p y = true
      · rw [if_pos c, if_pos (h y c)]; simpa using ih
      · rw [if_neg c]; split <;> (try simp only [List.length_cons]) <;> omega
namespace GOK
variable (h : GOK g s v)
end GOK
theorem getD_set (W : List Int) (i d : Nat) (x : Int) : (W.set i x).getD d 0 = if i = d ∧ i < W.length then x else W.getD d 0 := by
  simp only [List.getD, List.getElem?_set]
  by_cases c : i = d
  · subst c
    by_cases c2 : i < W.length
    · simp [c2]
    · simp [c2]
  · simp [c]
namespace GOK
variable (h : GOK g s v)
end GOK
end
end Go.Proofs.Ytilcdghliigngaa
namespace Go.Proofs.Ytilcdghliigngaa
open Go.RowKit Go.Proofs.YtilcdghliigngaaGl Go.Proofs.YtilcdghliigngaaPm
set_option linter.unusedVariables false
set_option linter.unusedSimpArgs false
set_option linter.unusedSectionVars false
section
variable {g : List Edg} {s v : Nat}
def idl0 (t : Nat) : List Int := if t = 0 then [0] else []
namespace GOK
variable (h : GOK g s v)
end GOK
end
end Go.Proofs.Ytilcdghliigngaa
namespace Go.Proofs.Ytilcdghliigngaa
open Go.RowKit Go.Proofs.YtilcdghliigngaaGl Go.Proofs.YtilcdghliigngaaPm
set_option linter.unusedVariables false
set_option linter.unusedSimpArgs false
set_option linter.unusedSectionVars false
section
variable {g : List Edg} {s v : Nat}
theorem getD_some {xs : List Int} {d : Nat} (h : d < xs.length) : xs[d]? = some (xs.getD d 0) := by
  simp [List.getD, h]
theorem list_eq {xs : List Int} {f : Nat → Int} {n : Nat} (hl : xs.length = n) (h : ∀ d, d < n → xs.getD d 0 = f d) : xs = (List.range n).map f := by
  refine List.ext_getElem? fun d => ?_
  by_cases hd : d < n
  · rw [getD_some (by omega), h d hd, List.getElem?_map, List.getElem?_range hd]; rfl
  · rw [List.getElem?_eq_none (by omega), List.getElem?_eq_none (by simp; omega)]
theorem outF_cnt (F : Nat → Nat → Bool) {n i : Nat} (hi : i < n) : ∀ k, ((outF F n k).filter (fun e => decide (e.id = (i : Int)))).length = ((List.range k).filter (fun t => F t i)).length
  | 0 => rfl
  | k + 1 => by
    rw [outF_next, List.filter_append, List.length_append, outF_cnt F hi k, List.range_succ (n := k), List.filter_append, List.length_append]
    congr 1
    rw [List.filter_map]
    have e1 : ((List.range n).filter (F k)).filter ((fun e : Evt => decide (e.id = (i : Int))) ∘ fun d : Nat => (⟨(k : Int), (d : Int)⟩ : Evt)) = if F k i = true then [i] else [] := by
      rw [List.filter_filter]
      by_cases c : F k i = true
      · rw [if_pos c]
        refine filt_one hi (fun d hd => ?_)
        simp only [Function.comp, Bool.and_eq_true, decide_eq_true_eq]
        constructor
        · rintro ⟨h1, h2⟩; omega
        · rintro rfl; exact ⟨by simp, c⟩
      · rw [if_neg c]
        refine filt_none (fun d hd => ?_)
        simp only [Function.comp, Bool.and_eq_true, decide_eq_true_eq]
        rintro ⟨h1, h2⟩
        have : d = i := by omega
        subst this; exact c h2
    rw [e1]
    by_cases c : F k i = true
    · simp [c]
    · simp [c]
def cntL (v : Nat) (l : List Evt) : List Int := (List.range v).map (fun d : Nat => ((l.filter (fun e : Evt => decide (e.id = (d : Int)))).length : Int))
theorem cntL_len (v : Nat) (l : List Evt) : (cntL v l).length = v := by unfold cntL; simp
theorem cntL_getD {l : List Evt} {d : Nat} (hd : d < v) : (cntL v l).getD d 0 = ((l.filter (fun e => decide (e.id = (d : Int)))).length : Int) := by
  unfold cntL; simp [List.getD, hd]
theorem cntL_nil (v : Nat) : (cntL v []) = List.replicate v 0 := by
  unfold cntL
  refine List.ext_getElem? fun d => ?_
  by_cases hd : d < v
  · simp [hd]
  · simp [hd]
theorem cntL_step {l : List Evt} {k : Nat} {x : Evt} {i : Nat} (hx : l[k]? = some x) (hi : x.id = (i : Int)) : cntL v (l.take (k + 1)) = (cntL v (l.take k)).set i ((cntL v (l.take k)).getD i 0 + 1) := by
  symm
  refine list_eq (by rw [List.length_set, cntL_len]) (fun d hd => ?_)
  rw [getD_set, List.take_add_one, hx, List.filter_append, List.length_append, cntL_len]
  by_cases c : i = d ∧ i < v
  · rw [if_pos c]
    obtain ⟨rfl, _⟩ := c
    rw [cntL_getD hd]
    have : ([x].filter (fun e => decide (e.id = (i : Int)))).length = 1 := by simp [hi]
    show _ = (((_ : Nat) + ([x].filter (fun e => decide (e.id = (i : Int)))).length : Nat) : Int)
    rw [this]; rfl
  · rw [if_neg c, cntL_getD hd]
    have : ([x].filter (fun e => decide (e.id = (d : Int)))).length = 0 := by
      have : ¬ x.id = (d : Int) := fun e => c ⟨by omega, by omega⟩
      simp [this]
    show _ = (((_ : Nat) + ([x].filter (fun e => decide (e.id = (d : Int)))).length : Nat) : Int)
    rw [this]; rfl
namespace GOK
variable (h : GOK g s v)
end GOK
end
abbrev uW (x : Int) : Int := IntKind.u64.wrap x
theorem uW_0 (x : Int) : 0 ≤ uW x := by unfold uW; rw [IntKind.wrap_u64]; omega
end Go.Proofs.Ytilcdghliigngaa
namespace Go.Proofs.Ytilcdghliigngaa
open Go.RowKit Go.Proofs.YtilcdghliigngaaGl Go.Proofs.YtilcdghliigngaaPm
set_option linter.unusedVariables false
set_option linter.unusedSimpArgs false
theorem a_remU {i j : Int} (hi : 0 ≤ i) (hj : 0 < j) : arV .rem .u64 i j = some (i % j) := by simp only [arV, if_neg (show j ≠ 0 by omega), Int.tmod_eq_emod_of_nonneg hi]
def fillL (v j : Nat) : List Int := List.replicate j (-1) ++ List.replicate (v - j) 0
end Go.Proofs.Ytilcdghliigngaa
namespace Go.Proofs.Ytilcdghliigngaa
open Go.RowKit Go.Proofs.YtilcdghliigngaaGl Go.Proofs.YtilcdghliigngaaPm
set_option linter.unusedVariables false
set_option linter.unusedSimpArgs false
set_option linter.unusedSectionVars false
theorem once_sim {h : Int} (hh : 1 ≤ h ∧ h ≤ 1048576) {c cum x V : Nat → Int} {F : Nat → Bool} (hc : ∀ t, 0 ≤ c t) (h0 : cum 0 = 0) (hs : ∀ t, cum (t + 1) = cum t + c t) (hb : ∀ t, cum t ≤ 10000) (hF : ∀ t, F t = true ↔ cum t < h ∧ h ≤ cum (t + 1))
    (hx : ∀ t, x t = c t + (if 1 ≤ t ∧ F (t - 1) = true then -32768 else 0)) (hV0 : V 0 = 0) (hV : ∀ t, V (t + 1) = (stepV (setTh (onceP 0) h) (V t) (x t)).1) (t : Nat) : (stepV (setTh (onceP 0) h) (V t) (x t)).2 = F t := by
  have hn : ∀ t, 0 ≤ cum t := fun t => by
    induction t with
    | zero => omega
    | succ t ih => have := hs t; have := hc t; omega
  have hcb : ∀ t, c t ≤ 10000 := fun t => by have := hs t; have := hb (t + 1); have := hn t; omega
  have key : ∀ t, (cum t < h → V t = cum t) ∧ (h ≤ cum t → (1 ≤ t ∧ F (t - 1) = true → V t = 0) ∧ (¬ (1 ≤ t ∧ F (t - 1) = true) → V t ≤ cum t - 32768)) := fun t => by
    induction t with
    | zero => exact ⟨fun _ => by rw [hV0, h0], fun hle => by omega⟩
    | succ t ih =>
      have e1 := hs t; have e2 := hc t; have e3 := hcb t; have e4 := hb t; have e5 := hb (t + 1); have e6 := hn t; have e7 := hF t; have e8 := hx t
      rw [hV t, stepV_once]
      simp only [Nat.add_sub_cancel, show 1 ≤ t + 1 from by omega, true_and]
      by_cases a1 : cum t < h
      · have a2 : ¬ (1 ≤ t ∧ F (t - 1) = true) := fun c => by
          have := (hF (t - 1)).1 c.2
          rw [Nat.sub_add_cancel c.1] at this; omega
        rw [if_neg a2] at e8
        rw [ih.1 a1, e8]
        by_cases a3 : h ≤ cum (t + 1)
        · rw [if_neg (by omega)]
          exact ⟨fun c => by omega, fun _ => ⟨fun _ => rfl, fun c => absurd (e7.2 ⟨a1, a3⟩) c⟩⟩
        · rw [if_pos (by omega)]
          exact ⟨fun _ => by dsimp only; omega, fun c => by omega⟩
      · have a2 : ¬ F t = true := fun c => a1 (e7.1 c).1
        obtain ⟨b1, b2⟩ := ih.2 (by omega)
        refine ⟨fun c => by omega, fun _ => ⟨fun c => absurd c a2, fun _ => ?_⟩⟩
        by_cases a4 : 1 ≤ t ∧ F (t - 1) = true
        · rw [if_pos a4] at e8
          rw [b1 a4, e8, if_pos (by omega)]; dsimp only; omega
        · rw [if_neg a4] at e8
          have := b2 a4
          rw [e8, if_pos (by omega)]; dsimp only; omega
  obtain ⟨k1, k2⟩ := key t
  have e1 := hs t; have e2 := hc t; have e3 := hcb t; have e4 := hb t; have e5 := hb (t + 1); have e6 := hn t; have e7 := hF t; have e8 := hx t
  have fin : ∀ b : Bool, (b = true ↔ F t = true) → b = F t := fun b e => by cases b <;> cases hh : F t <;> simp_all
  refine fin _ ?_
  rw [stepV_once, e7]
  by_cases a1 : cum t < h
  · have a2 : ¬ (1 ≤ t ∧ F (t - 1) = true) := fun c => by
      have := (hF (t - 1)).1 c.2
      rw [Nat.sub_add_cancel c.1] at this; omega
    rw [if_neg a2] at e8
    rw [k1 a1, e8]
    by_cases a3 : h ≤ cum (t + 1)
    · rw [if_neg (by omega)]; exact ⟨fun _ => ⟨a1, a3⟩, fun _ => rfl⟩
    · rw [if_pos (by omega)]; exact ⟨fun c => absurd c (by simp), fun c => absurd c.2 a3⟩
  · obtain ⟨b1, b2⟩ := k2 (by omega)
    have : max (-1048576) (min 1048576 (V t + max (-4194304) (min 4194304 (x t)))) < h := by
      by_cases a4 : 1 ≤ t ∧ F (t - 1) = true
      · rw [if_pos a4] at e8; rw [b1 a4, e8]; omega
      · rw [if_neg a4] at e8; have := b2 a4; rw [e8]; omega
    rw [if_pos this]
    exact ⟨fun c => absurd c (by simp), fun c => absurd c.1 a1⟩
abbrev CLA := List Int × Int
def toN (v : Nat) (c : CLA) : Nat := if c.2 < 0 then v else c.2.toNat
structure HOK (cs : List CLA) (v : Nat) : Prop where
  hv : 1 ≤ v ∧ v ≤ 30
  hl : cs.length ≤ 60
  hi : ∀ c ∈ cs, c.1.length ≤ 5 ∧ c.1.Nodup ∧ (∀ t ∈ c.1, 0 ≤ t ∧ t < (v : Int)) ∧ -1 ≤ c.2 ∧ c.2 < (v : Int)
def holdB (W : List Int) (v : Nat) (c : CLA) : Bool := decide (W.getD (toN v c) 0 = 0) && c.1.all fun t => decide (0 < W.getD t.toNat 0)
def newL (W : List Int) (v : Nat) (cs : List CLA) : List Int := (cs.filter (holdB W v)).map fun c => (toN v c : Int)
def setL (W : List Int) (r : Int) (l : List Int) : List Int := l.foldl (fun A t => A.set t.toNat r) W
def rnL (cs : List CLA) (v : Nat) : Nat → List Int
  | 0 => List.replicate (v + 1) 0
  | k + 1 => setL (rnL cs v k) ((k + 1 : Nat) : Int) (newL (rnL cs v k) v cs)
def rnd (cs : List CLA) (v k d : Nat) : Int := (rnL cs v k).getD d 0
theorem setL_len (r : Int) : ∀ (l W : List Int), (setL W r l).length = W.length
  | [], W => rfl
  | t :: l, W => by unfold setL; rw [List.foldl_cons]; exact (setL_len r l _).trans (by simp)
theorem setL_get (r : Int) (d : Nat) : ∀ (l W : List Int), (∀ t ∈ l, 0 ≤ t) → d < W.length → (setL W r l).getD d 0 = if (d : Int) ∈ l then r else W.getD d 0
  | [], W, _, _ => by simp [setL]
  | t :: l, W, h0, hd => by
    have ht := h0 t (.head _)
    have ih := setL_get r d l (W.set t.toNat r) (fun x hx => h0 x (.tail _ hx)) (by simpa using hd)
    unfold setL at ih ⊢
    rw [List.foldl_cons, ih, getD_set]
    by_cases c1 : (d : Int) ∈ l
    · rw [if_pos c1, if_pos (.tail _ c1)]
    · rw [if_neg c1]
      by_cases c2 : t = (d : Int)
      · rw [if_pos ⟨by omega, by omega⟩, if_pos (by rw [c2]; exact .head _)]
      · rw [if_neg (fun c => c2 (by omega)), if_neg (fun c => by
          rcases List.mem_cons.1 c with c | c
          · exact c2 c.symm
          · exact c1 c)]
section
variable {cs : List CLA} {v : Nat}
theorem rnL_len (k : Nat) : (rnL cs v k).length = v + 1 := by
  induction k with
  | zero => simp [rnL]
  | succ k ih => rw [rnL, setL_len, ih]
theorem newL_mem {W : List Int} {d : Nat} : (d : Int) ∈ newL W v cs ↔ W.getD d 0 = 0 ∧ ∃ c ∈ cs, toN v c = d ∧ ∀ t ∈ c.1, 0 < W.getD t.toNat 0 := by
  unfold newL
  rw [List.mem_map]
  constructor
  · rintro ⟨c, hc, e⟩
    obtain ⟨h1, h2⟩ := List.mem_filter.1 hc
    have e' : toN v c = d := by omega
    unfold holdB at h2
    rw [Bool.and_eq_true, decide_eq_true_eq, List.all_eq_true, e'] at h2
    exact ⟨h2.1, c, h1, e', fun t ht => by simpa using h2.2 t ht⟩
  · rintro ⟨h1, c, hc, e, h2⟩
    refine ⟨c, List.mem_filter.2 ⟨hc, ?_⟩, by rw [e]⟩
    unfold holdB
    rw [Bool.and_eq_true, decide_eq_true_eq, List.all_eq_true, e]
    exact ⟨h1, fun t ht => by simpa using h2 t ht⟩
theorem rnd_0 (d : Nat) : rnd cs v 0 d = 0 := by
  unfold rnd rnL
  by_cases hd : d < v + 1
  · simp [List.getD, hd]
  · simp [List.getD, hd]
theorem rnd_S {k d : Nat} (hd : d < v + 1) : rnd cs v (k + 1) d = if rnd cs v k d = 0 ∧ ∃ c ∈ cs, toN v c = d ∧ ∀ t ∈ c.1, 0 < rnd cs v k t.toNat then ((k + 1 : Nat) : Int) else rnd cs v k d := by
  have h1 := setL_get ((k + 1 : Nat) : Int) d (newL (rnL cs v k) v cs) (rnL cs v k) (fun t ht => by
    obtain ⟨c, _, rfl⟩ := List.mem_map.1 ht; omega) (by rw [rnL_len]; exact hd)
  have h2 : rnd cs v (k + 1) d = (setL (rnL cs v k) ((k + 1 : Nat) : Int) (newL (rnL cs v k) v cs)).getD d 0 := rfl
  rw [h2, h1]
  by_cases c : (d : Int) ∈ newL (rnL cs v k) v cs
  · rw [if_pos c]; exact (if_pos (newL_mem.1 c)).symm
  · rw [if_neg c]; exact (if_neg (fun c' => c (newL_mem.2 c'))).symm
theorem rnd_b {d : Nat} (hd : d < v + 1) : ∀ k, 0 ≤ rnd cs v k d ∧ rnd cs v k d ≤ (k : Int)
  | 0 => by rw [rnd_0]; omega
  | k + 1 => by
    have := rnd_b hd k
    rw [rnd_S hd]; split <;> omega
theorem rnd_keep {d : Nat} (hd : d < v + 1) {k : Nat} (h : 0 < rnd cs v k d) : ∀ j, rnd cs v (k + j) d = rnd cs v k d
  | 0 => rfl
  | j + 1 => by
    rw [← Nat.add_assoc, rnd_S hd, rnd_keep hd h j, if_neg (fun c => by omega)]
theorem rnd_why {d : Nat} (hd : d < v + 1) : ∀ {k : Nat}, 0 < rnd cs v k d → ∃ r : Nat, rnd cs v k d = ((r + 1 : Nat) : Int) ∧ r + 1 ≤ k ∧ rnd cs v r d = 0 ∧ ∃ c ∈ cs, toN v c = d ∧ ∀ t ∈ c.1, 0 < rnd cs v r t.toNat
  | 0, h => by rw [rnd_0] at h; omega
  | k + 1, h => by
    rw [rnd_S hd] at h ⊢
    by_cases c : rnd cs v k d = 0 ∧ ∃ c ∈ cs, toN v c = d ∧ ∀ t ∈ c.1, 0 < rnd cs v k t.toNat
    · rw [if_pos c]; exact ⟨k, rfl, Nat.le_refl _, c.1, c.2⟩
    · rw [if_neg c] at h ⊢
      obtain ⟨r, h1, h2, h3⟩ := rnd_why hd h
      exact ⟨r, h1, by omega, h3⟩
def lev (cs : List CLA) (v d : Nat) : Int := rnd cs v (v + 2) d
namespace HOK
variable (h : HOK cs v)
include h
theorem toN_lt {c : CLA} (hc : c ∈ cs) : toN v c < v + 1 := by
  have := h.hi c hc
  unfold toN; split <;> omega
theorem prem_lt {c : CLA} (hc : c ∈ cs) {t : Int} (ht : t ∈ c.1) : 0 ≤ t ∧ t.toNat < v + 1 ∧ t.toNat < v := by
  have := (h.hi c hc).2.2.1 t ht; omega
theorem lev_at {d k : Nat} (hd : d < v + 1) (hk : k ≤ v + 2) (hp : 0 < rnd cs v k d) : lev cs v d = rnd cs v k d := by
  have := rnd_keep hd hp (v + 2 - k)
  unfold lev; rw [← this]; congr 1; omega
theorem lev_ge {d k : Nat} (hd : d < v + 1) (hk : k ≤ v + 2) (h0 : 0 < lev cs v d) (h1 : lev cs v d ≤ (k : Int)) : 0 < rnd cs v k d := by
  obtain ⟨r, e1, e2, e3, e4⟩ := rnd_why hd h0
  have : rnd cs v (r + 1) d = ((r + 1 : Nat) : Int) := by rw [rnd_S hd, if_pos ⟨e3, e4⟩]
  have h2 := rnd_keep (cs := cs) hd (k := r + 1) (by omega) (k - (r + 1))
  have e1' : lev cs v d = ((r + 1 : Nat) : Int) := e1
  rw [show r + 1 + (k - (r + 1)) = k by omega, this] at h2
  omega
theorem q2 {d : Nat} (hd : d < v + 1) (h0 : 0 < lev cs v d) : ∃ c ∈ cs, toN v c = d ∧ ∀ t ∈ c.1, 0 < lev cs v t.toNat ∧ lev cs v t.toNat < lev cs v d := by
  obtain ⟨r, e1, e2, e3, c, hc, e4, e5⟩ := rnd_why hd h0
  refine ⟨c, hc, e4, fun t ht => ?_⟩
  have ht' := h.prem_lt hc ht
  have h1 := e5 t ht
  have h2 := h.lev_at ht'.2.1 (k := r) (by omega) h1
  have h3 := (rnd_b (cs := cs) ht'.2.1 r).2
  have e1' : lev cs v d = ((r + 1 : Nat) : Int) := e1
  omega
theorem chain {d : Nat} (hd : d < v + 1) {r : Nat} (h0 : lev cs v d = ((r + 2 : Nat) : Int)) : ∃ e, e < v + 1 ∧ lev cs v e = ((r + 1 : Nat) : Int) := by
  obtain ⟨r', e1, e2, e3, c, hc, e4, e5⟩ := rnd_why hd (k := v + 2) (show 0 < lev cs v d by omega)
  have e1' : lev cs v d = ((r' + 1 : Nat) : Int) := e1
  have hr : r' = r + 1 := by omega
  subst hr
  refine Decidable.byContradiction fun hn => ?_
  have hall : ∀ t ∈ c.1, 0 < rnd cs v r t.toNat := fun t ht => by
    have ht' := h.prem_lt hc ht
    have h1 := e5 t ht
    have h2 := h.lev_at ht'.2.1 (k := r + 1) (by omega) h1
    have h3 := (rnd_b (cs := cs) ht'.2.1 (r + 1)).2
    refine h.lev_ge ht'.2.1 (by omega) (by omega) ?_
    have : lev cs v t.toNat ≠ ((r + 1 : Nat) : Int) := fun e => hn ⟨_, ht'.2.1, e⟩
    omega
  have hz : rnd cs v r d = 0 := by
    have hb := rnd_b (cs := cs) hd r
    by_cases c0 : rnd cs v r d = 0
    · exact c0
    · have := rnd_keep (cs := cs) hd (k := r) (by omega) 1; omega
  rw [rnd_S hd, if_pos ⟨hz, c, hc, e4, hall⟩] at e3
  omega
theorem count : ∀ (r : Nat), (∃ d, d < v + 1 ∧ lev cs v d = (r : Int)) → r ≤ ((List.range (v + 1)).filter (fun d => decide (0 < lev cs v d ∧ lev cs v d ≤ (r : Int)))).length
  | 0, _ => Nat.zero_le _
  | 1, ⟨d, hd, e⟩ => by
    refine List.length_pos_of_mem (a := d) (List.mem_filter.2 ⟨List.mem_range.2 hd, ?_⟩)
    simp only [decide_eq_true_eq]; omega
  | r + 2, ⟨d, hd, e⟩ => by
    have ih := count (r + 1) (h.chain hd e)
    have := filter_lt (p := fun d => decide (0 < lev cs v d ∧ lev cs v d ≤ ((r + 1 : Nat) : Int))) (q := fun d => decide (0 < lev cs v d ∧ lev cs v d ≤ ((r + 2 : Nat) : Int))) (l := List.range (v + 1)) (x := d) (fun y hy => by simp only [decide_eq_true_eq] at hy ⊢; omega) (List.mem_range.2 hd) (by simp only [decide_eq_true_eq]; omega) (by simp only [decide_eq_true_eq]; omega)
    omega
theorem q3 {d : Nat} (hd : d < v + 1) : 0 ≤ lev cs v d ∧ lev cs v d ≤ (v : Int) + 1 := by
  have hb := rnd_b (cs := cs) hd (v + 2)
  have h1 := h.count (lev cs v d).toNat ⟨d, hd, by have : 0 ≤ lev cs v d := hb.1; omega⟩
  have h2 := List.length_filter_le (fun x => decide (0 < lev cs v x ∧ lev cs v x ≤ ((lev cs v d).toNat : Int))) (List.range (v + 1))
  rw [List.length_range] at h2
  have : 0 ≤ lev cs v d := hb.1
  omega
theorem q1 {c : CLA} (hc : c ∈ cs) {m : Nat} (hm : m ≤ v + 1) (hp : ∀ t ∈ c.1, 0 < lev cs v t.toNat ∧ lev cs v t.toNat ≤ (m : Int)) : 0 < lev cs v (toN v c) ∧ lev cs v (toN v c) ≤ (m : Int) + 1 := by
  have hd := h.toN_lt hc
  have hall : ∀ t ∈ c.1, 0 < rnd cs v m t.toNat := fun t ht => h.lev_ge (h.prem_lt hc ht).2.1 (by omega) (hp t ht).1 (hp t ht).2
  have hb := rnd_b (cs := cs) hd m
  have hpos : 0 < rnd cs v (m + 1) (toN v c) := by
    rw [rnd_S hd]
    by_cases c0 : rnd cs v m (toN v c) = 0
    · rw [if_pos ⟨c0, c, hc, rfl, hall⟩]; omega
    · rw [if_neg (fun cc => c0 cc.1)]; omega
  have h1 := h.lev_at hd (k := m + 1) (by omega) hpos
  have h2 := rnd_b (cs := cs) hd (m + 1)
  omega
end HOK
end
end Go.Proofs.Ytilcdghliigngaa
namespace Go.Proofs.Ytilcdghliigngaa
open Go.RowKit Go.Proofs.YtilcdghliigngaaGl Go.Proofs.YtilcdghliigngaaPm
set_option linter.unusedVariables false
set_option linter.unusedSimpArgs false
set_option linter.unusedSectionVars false
section
variable {cs : List CLA} {v : Nat}
def mxB (l : List Int) : Int := l.foldl max 0
theorem mxB_acc : ∀ (l : List Int) (a : Int), a ≤ l.foldl max a ∧ (∀ x ∈ l, x ≤ l.foldl max a) ∧ ∀ m, a ≤ m → (∀ x ∈ l, x ≤ m) → l.foldl max a ≤ m
  | [], a => ⟨Int.le_refl _, fun x hx => absurd hx (by simp), fun m h _ => h⟩
  | y :: l, a => by
    obtain ⟨h1, h2, h3⟩ := mxB_acc l (max a y)
    rw [List.foldl_cons]
    refine ⟨by omega, fun x hx => ?_, fun m hm hx => h3 m (by have := hx y (.head _); omega) (fun z hz => hx z (.tail _ hz))⟩
    rcases List.mem_cons.1 hx with rfl | hx
    · omega
    · exact h2 x hx
def mx (cs : List CLA) (v : Nat) (c : CLA) : Int := mxB (c.1.map fun t => lev cs v t.toNat)
theorem mx_0 (c : CLA) : 0 ≤ mx cs v c := (mxB_acc _ 0).1
theorem mx_ge {c : CLA} {t : Int} (ht : t ∈ c.1) : lev cs v t.toNat ≤ mx cs v c := (mxB_acc _ 0).2.1 _ (List.mem_map_of_mem ht)
theorem mx_le {c : CLA} {m : Int} (hm : 0 ≤ m) (h : ∀ t ∈ c.1, lev cs v t.toNat ≤ m) : mx cs v c ≤ m := (mxB_acc _ 0).2.2 m hm (fun x hx => by
  obtain ⟨t, ht, rfl⟩ := List.mem_map.1 hx; exact h t ht)
def rdy (cs : List CLA) (v : Nat) (c : CLA) : Prop := ∀ t ∈ c.1, 0 < lev cs v t.toNat
instance (cs : List CLA) (v : Nat) (c : CLA) : Decidable (rdy cs v c) := inferInstanceAs (Decidable (∀ t ∈ c.1, _))
def claAt (cs : List CLA) (v d : Nat) : CLA := cs.getD (d - (v + 1)) ([], 0)
def hoF (cs : List CLA) (v t d : Nat) : Bool := if d < v + 1 then decide (0 < lev cs v d ∧ (t : Int) = 2 * lev cs v d) else decide (rdy cs v (claAt cs v d) ∧ (t : Int) = 2 * mx cs v (claAt cs v d) + 1)
def hornSs (cs : List CLA) (v : Nat) : List Syn := selvesFrom 0 (v + 1 + cs.length) ++ clTo v cs cs.length
def hornNs (cs : List CLA) (v : Nat) : List Prm := List.replicate (v + 1) (onceP 1) ++ cs.map (fun c => onceP (max 1 (c.1.length : Int)))
def hornN (cs : List CLA) (v : Nat) : NetP := ⟨hornNs cs v, 1, hornSs cs v⟩
def cT (cs : List CLA) (v d t : Nat) : Int := sumI (fun c : CLA => if toN v c = d ∧ rdy cs v c ∧ (t : Int) = 2 * mx cs v c + 2 then 1 else 0) cs
def cumT (cs : List CLA) (v d t : Nat) : Int := sumI (fun c : CLA => if toN v c = d ∧ rdy cs v c ∧ 2 * mx cs v c + 2 < (t : Int) then 1 else 0) cs
def cC (cs : List CLA) (v : Nat) (c : CLA) (t : Nat) : Int := sumI (fun p : Int => if 0 < lev cs v p.toNat ∧ (t : Int) = 2 * lev cs v p.toNat + 1 then 1 else 0) c.1 + (if c.1.length = 0 ∧ t = 1 then 1 else 0)
def cumC (cs : List CLA) (v : Nat) (c : CLA) (t : Nat) : Int := sumI (fun p : Int => if 0 < lev cs v p.toNat ∧ 2 * lev cs v p.toNat + 1 < (t : Int) then 1 else 0) c.1 + (if c.1.length = 0 ∧ 1 < t then 1 else 0)
theorem cnt_all {α : Type} {P : α → Prop} [DecidablePred P] : ∀ {l : List α}, (l.length : Int) ≤ sumI (fun x => if P x then 1 else 0) l ↔ ∀ x ∈ l, P x
  | [] => ⟨fun _ x hx => absurd hx (by simp), fun _ => by simp [sumI]⟩
  | x :: l => by
    have ih := cnt_all (P := P) (l := l)
    have hle := sumI_le (f := fun x => if P x then (1 : Int) else 0) (xs := l) (fun y _ => by split <;> omega)
    simp only [sumI, List.length_cons, List.forall_mem_cons]
    by_cases c : P x
    · rw [if_pos c]
      constructor
      · intro h; exact ⟨c, ih.1 (by omega)⟩
      · intro h; have := ih.2 h.2; omega
    · rw [if_neg c]
      constructor
      · intro h; exfalso; omega
      · intro h; exact absurd h.1 c
theorem cnt_any {α : Type} {P : α → Prop} [DecidablePred P] {l : List α} : 1 ≤ sumI (fun x => if P x then 1 else 0) l ↔ ∃ x ∈ l, P x := by
  constructor
  · intro h
    refine Decidable.byContradiction fun hn => ?_
    rw [sumI_zero (fun x hx => if_neg (fun c => hn ⟨x, hx, c⟩))] at h; omega
  · rintro ⟨x, hx, c⟩
    exact sumI_pos (fun y _ => by split <;> omega) hx (by rw [if_pos c]; exact Int.le_refl _)
theorem cnt_nn {α : Type} {P : α → Prop} [DecidablePred P] (l : List α) : 0 ≤ sumI (fun x => if P x then (1 : Int) else 0) l ∧ sumI (fun x => if P x then (1 : Int) else 0) l ≤ (l.length : Int) :=
  ⟨sumI_nonneg (fun y _ => by split <;> omega), sumI_le (fun y _ => by split <;> omega)⟩
theorem sumI_getD {α : Type} {f : α → Int} {d : α} {xs : List α} : sumI (fun i => f (xs.getD i d)) (List.range xs.length) = sumI f xs := by
  have : ∀ n, n ≤ xs.length → sumI (fun i => f (xs.getD i d)) (List.range n) = sumI f (xs.take n) := fun n hn => by
    induction n with
    | zero => simp [sumI]
    | succ n ih =>
      obtain ⟨x, hx⟩ : ∃ x, xs[n]? = some x := ⟨_, List.getElem?_eq_getElem (by omega)⟩
      rw [List.range_succ, sumI_app, ih (by omega), List.take_add_one, hx, sumI_app]
      simp only [sumI, Option.toList]
      rw [getD_at hx]
  rw [this _ (Nat.le_refl _), List.take_length]
namespace HOK
variable (h : HOK cs v)
include h
theorem cl_ready {c : CLA} (hc : c ∈ cs) (hr : rdy cs v c) : 0 < lev cs v (toN v c) ∧ lev cs v (toN v c) ≤ mx cs v c + 1 ∧ mx cs v c ≤ (v : Int) + 1 := by
  have h0 := mx_0 (cs := cs) (v := v) c
  have hm : mx cs v c ≤ (v : Int) + 1 := mx_le (by omega) (fun t ht => (h.q3 (h.prem_lt hc ht).2.1).2)
  have := h.q1 hc (m := (mx cs v c).toNat) (by omega) (fun t ht => ⟨hr t ht, by have := mx_ge (cs := cs) (v := v) ht; omega⟩)
  exact ⟨this.1, by omega, hm⟩
theorem cl_first {d : Nat} (hd : d < v + 1) (h0 : 0 < lev cs v d) : ∃ c ∈ cs, toN v c = d ∧ rdy cs v c ∧ mx cs v c + 1 = lev cs v d := by
  obtain ⟨c, hc, e, hp⟩ := h.q2 hd h0
  have hr : rdy cs v c := fun t ht => (hp t ht).1
  have h1 := h.cl_ready hc hr
  have h2 : mx cs v c ≤ lev cs v d - 1 := mx_le (by omega) (fun t ht => by have := (hp t ht).2; omega)
  rw [e] at h1
  exact ⟨c, hc, e, hr, by omega⟩
theorem thing {d : Nat} (hd : d < v + 1) (t : Nat) : hoF cs v t d = true ↔ cumT cs v d t < 1 ∧ 1 ≤ cumT cs v d (t + 1) := by
  unfold hoF cumT
  rw [if_pos hd, decide_eq_true_eq, cnt_any]
  have hn : (sumI (fun c : CLA => if toN v c = d ∧ rdy cs v c ∧ 2 * mx cs v c + 2 < (t : Int) then 1 else 0) cs < 1) ↔ ¬ ∃ c ∈ cs, toN v c = d ∧ rdy cs v c ∧ 2 * mx cs v c + 2 < (t : Int) := by
    rw [← cnt_any]; omega
  rw [hn]
  constructor
  · rintro ⟨h1, h2⟩
    obtain ⟨c, hc, e1, e2, e3⟩ := h.cl_first hd h1
    refine ⟨fun ⟨c', hc', e4, e5, e6⟩ => ?_, ⟨c, hc, e1, e2, by omega⟩⟩
    have := (h.cl_ready hc' e5).2.1
    rw [e4] at this; omega
  · rintro ⟨h1, c', hc', e4, e5, e6⟩
    have h3 := h.cl_ready hc' e5
    rw [e4] at h3
    obtain ⟨c, hc, e1, e2, e3⟩ := h.cl_first hd h3.1
    refine ⟨h3.1, ?_⟩
    have : ¬ 2 * mx cs v c + 2 < (t : Int) := fun hlt => h1 ⟨c, hc, e1, e2, hlt⟩
    omega
theorem clause {i : Nat} (hi : i < cs.length) (t : Nat) : hoF cs v t (v + 1 + i) = true ↔ cumC cs v (cs.getD i ([], 0)) t < max 1 ((cs.getD i ([], 0)).1.length : Int) ∧ max 1 ((cs.getD i ([], 0)).1.length : Int) ≤ cumC cs v (cs.getD i ([], 0)) (t + 1) := by
  have ei : claAt cs v (v + 1 + i) = cs.getD i ([], 0) := by unfold claAt; rw [show v + 1 + i - (v + 1) = i by omega]
  unfold hoF cumC
  rw [if_neg (by omega), decide_eq_true_eq, ei]
  generalize cs.getD i ([], 0) = c
  have h0 := mx_0 (cs := cs) (v := v) c
  by_cases he : c.1.length = 0
  · have hn : c.1 = [] := List.eq_nil_of_length_eq_zero he
    have hr : rdy cs v c := fun t ht => by rw [hn] at ht; cases ht
    have hm : mx cs v c = 0 := by unfold mx; rw [hn]; rfl
    rw [hn, hm]
    simp only [sumI, List.length_nil, true_and]
    constructor
    · rintro ⟨_, h2⟩
      rw [if_neg (by omega), if_pos (by omega)]; omega
    · rintro ⟨h1, h2⟩
      refine ⟨hr, ?_⟩
      split at h1
      · omega
      · split at h2
        · omega
        · omega
  · rw [if_neg (fun c => he c.1), if_neg (fun c => he c.1), Int.add_zero, Int.add_zero, show max 1 (c.1.length : Int) = (c.1.length : Int) by omega, cnt_all]
    have hn : (sumI (fun p : Int => if 0 < lev cs v p.toNat ∧ 2 * lev cs v p.toNat + 1 < (t : Int) then 1 else 0) c.1 < (c.1.length : Int)) ↔ ¬ ∀ p ∈ c.1, 0 < lev cs v p.toNat ∧ 2 * lev cs v p.toNat + 1 < (t : Int) := by
      rw [← cnt_all]; omega
    rw [hn]
    obtain ⟨p0, hp0⟩ := List.exists_mem_of_length_pos (l := c.1) (by omega)
    constructor
    · rintro ⟨h1, h2⟩
      refine ⟨fun hall => ?_, fun p hp => ⟨h1 p hp, by have := mx_ge (cs := cs) (v := v) hp; omega⟩⟩
      have h3 : 1 ≤ (t : Int) := by omega
      have := mx_le (cs := cs) (v := v) (c := c) (m := ((t : Int) - 2) / 2) (by have := hall p0 hp0; omega) (fun p hp => by have := (hall p hp).2; omega)
      omega
    · rintro ⟨h1, h2⟩
      have hr : rdy cs v c := fun p hp => (h2 p hp).1
      refine ⟨hr, ?_⟩
      have h3 := mx_le (cs := cs) (v := v) (c := c) (m := (t : Int) / 2) (by omega) (fun p hp => by have := (h2 p hp).2; omega)
      have h4 : 2 * mx cs v c + 1 ≤ (t : Int) := by
        have := mx_le (cs := cs) (v := v) (c := c) (m := ((t : Int) - 1) / 2) (by have := h2 p0 hp0; omega) (fun p hp => by have := (h2 p hp).2; omega)
        have := (h2 p0 hp0).2; have := (h2 p0 hp0).1
        omega
      have h5 : ¬ 2 * mx cs v c + 1 < (t : Int) := fun hlt => h1 (fun p hp => ⟨hr p hp, by have := mx_ge (cs := cs) (v := v) hp; omega⟩)
      omega
theorem cT_ok (d : Nat) : (∀ t, 0 ≤ cT cs v d t) ∧ cumT cs v d 0 = 0 ∧ (∀ t, cumT cs v d (t + 1) = cumT cs v d t + cT cs v d t) ∧ ∀ t, cumT cs v d t ≤ 10000 := by
  have hl := h.hl
  refine ⟨fun t => (cnt_nn _).1, sumI_zero (fun c hc => if_neg (fun cc => by have := mx_0 (cs := cs) (v := v) c; have := cc.2.2; omega)), fun t => ?_, fun t => ?_⟩
  · unfold cumT cT
    rw [← sumI_add]
    refine sumI_congr (fun c hc => ?_)
    by_cases c1 : toN v c = d ∧ rdy cs v c
    · by_cases c2 : 2 * mx cs v c + 2 < (t : Int)
      · rw [if_pos ⟨c1.1, c1.2, by omega⟩, if_pos ⟨c1.1, c1.2, c2⟩, if_neg (fun cc => by have := cc.2.2; omega)]; rfl
      · by_cases c3 : (t : Int) = 2 * mx cs v c + 2
        · rw [if_pos ⟨c1.1, c1.2, by omega⟩, if_neg (fun cc => c2 cc.2.2), if_pos ⟨c1.1, c1.2, c3⟩]; rfl
        · rw [if_neg (fun cc => by have := cc.2.2; omega), if_neg (fun cc => c2 cc.2.2), if_neg (fun cc => c3 cc.2.2)]; rfl
    · rw [if_neg (fun cc => c1 ⟨cc.1, cc.2.1⟩), if_neg (fun cc => c1 ⟨cc.1, cc.2.1⟩), if_neg (fun cc => c1 ⟨cc.1, cc.2.1⟩)]; rfl
  · have := (cnt_nn (P := fun c : CLA => toN v c = d ∧ rdy cs v c ∧ 2 * mx cs v c + 2 < (t : Int)) cs).2
    unfold cumT; omega
theorem cC_ok {c : CLA} (hc : c ∈ cs) : (∀ t, 0 ≤ cC cs v c t) ∧ cumC cs v c 0 = 0 ∧ (∀ t, cumC cs v c (t + 1) = cumC cs v c t + cC cs v c t) ∧ ∀ t, cumC cs v c t ≤ 10000 := by
  have hl := (h.hi c hc).1
  refine ⟨fun t => ?_, ?_, fun t => ?_, fun t => ?_⟩
  · have := (cnt_nn (P := fun p : Int => 0 < lev cs v p.toNat ∧ (t : Int) = 2 * lev cs v p.toNat + 1) c.1).1
    unfold cC; split <;> omega
  · unfold cumC
    rw [sumI_zero (fun p hp => if_neg (fun cc => by have := cc.2; have := cc.1; omega)), if_neg (by omega)]; rfl
  · unfold cumC cC
    have e : sumI (fun p : Int => if 0 < lev cs v p.toNat ∧ 2 * lev cs v p.toNat + 1 < ((t + 1 : Nat) : Int) then 1 else 0) c.1 = sumI (fun p : Int => if 0 < lev cs v p.toNat ∧ 2 * lev cs v p.toNat + 1 < (t : Int) then 1 else 0) c.1 + sumI (fun p : Int => if 0 < lev cs v p.toNat ∧ (t : Int) = 2 * lev cs v p.toNat + 1 then 1 else 0) c.1 := by
      rw [← sumI_add]
      refine sumI_congr (fun p hp => ?_)
      by_cases c1 : 0 < lev cs v p.toNat
      · by_cases c2 : 2 * lev cs v p.toNat + 1 < (t : Int)
        · rw [if_pos ⟨c1, by omega⟩, if_pos ⟨c1, c2⟩, if_neg (fun cc => by have := cc.2; omega)]; rfl
        · by_cases c3 : (t : Int) = 2 * lev cs v p.toNat + 1
          · rw [if_pos ⟨c1, by omega⟩, if_neg (fun cc => c2 cc.2), if_pos ⟨c1, c3⟩]; rfl
          · rw [if_neg (fun cc => by have := cc.2; omega), if_neg (fun cc => c2 cc.2), if_neg (fun cc => c3 cc.2)]; rfl
      · rw [if_neg (fun cc => c1 cc.1), if_neg (fun cc => c1 cc.1), if_neg (fun cc => c1 cc.1)]; rfl
    rw [e]
    by_cases c1 : c.1.length = 0
    · by_cases c2 : 1 < t
      · rw [if_pos ⟨c1, by omega⟩, if_pos ⟨c1, c2⟩, if_neg (by omega)]; omega
      · by_cases c3 : t = 1
        · rw [if_pos ⟨c1, by omega⟩, if_neg (by omega), if_pos ⟨c1, c3⟩]; omega
        · rw [if_neg (by omega), if_neg (by omega), if_neg (by omega)]; omega
    · rw [if_neg (fun cc => c1 cc.1), if_neg (fun cc => c1 cc.1), if_neg (fun cc => c1 cc.1)]; omega
  · have := (cnt_nn (P := fun p : Int => 0 < lev cs v p.toNat ∧ 2 * lev cs v p.toNat + 1 < (t : Int)) c.1).2
    unfold cumC; split <;> omega
end HOK
end
end Go.Proofs.Ytilcdghliigngaa
namespace Go.Proofs.Ytilcdghliigngaa
open Go.RowKit Go.Proofs.YtilcdghliigngaaGl Go.Proofs.YtilcdghliigngaaPm
set_option linter.unusedVariables false
set_option linter.unusedSimpArgs false
set_option linter.unusedSectionVars false
section
variable {cs : List CLA} {v : Nat}
def hX (cs : List CLA) (v t d : Nat) : Int := (if d < v + 1 then cT cs v d t else cC cs v (claAt cs v d) t) + (if 1 ≤ t ∧ hoF cs v (t - 1) d = true then -32768 else 0)
def hH (cs : List CLA) (v d : Nat) : Int := if d < v + 1 then 1 else max 1 ((claAt cs v d).1.length : Int)
def hV (cs : List CLA) (v : Nat) : Nat → Nat → Int
  | 0, _ => 0
  | t + 1, d => (stepV (setTh (onceP 0) (hH cs v d)) (hV cs v t d) (hX cs v t d)).1
def outH (cs : List CLA) (v : Nat) : List Evt := outF (hoF cs v) (v + 1 + cs.length) (2 * v + 10)
namespace HOK
variable (h : HOK cs v)
include h
theorem at_mem {i : Nat} (hi : i < cs.length) : cs.getD i ([], 0) ∈ cs := by
  obtain ⟨c, hc⟩ : ∃ c, cs[i]? = some c := ⟨_, List.getElem?_eq_getElem hi⟩
  rw [getD_at hc]; exact List.mem_iff_getElem?.2 ⟨i, hc⟩
theorem fires {d : Nat} (hd : d < v + 1 + cs.length) (t : Nat) : (stepV (setTh (onceP 0) (hH cs v d)) (hV cs v t d) (hX cs v t d)).2 = hoF cs v t d := by
  by_cases c : d < v + 1
  · obtain ⟨h1, h2, h3, h4⟩ := h.cT_ok d
    have e1 : hH cs v d = 1 := by unfold hH; rw [if_pos c]
    rw [e1]
    exact once_sim (h := 1) (by omega) (c := fun t => cT cs v d t) (cum := fun t => cumT cs v d t) (x := fun t => hX cs v t d) (V := fun t => hV cs v t d) (F := fun t => hoF cs v t d) h1 h2 h3 h4 (fun t => h.thing c t) (fun t => by unfold hX; rw [if_pos c]) rfl (fun t => by show (stepV (setTh (onceP 0) (hH cs v d)) _ _).1 = _; rw [e1]) t
  · obtain ⟨i, rfl⟩ : ∃ i, d = v + 1 + i := ⟨d - (v + 1), by omega⟩
    have hi : i < cs.length := by omega
    have ei : claAt cs v (v + 1 + i) = cs.getD i ([], 0) := by unfold claAt; rw [show v + 1 + i - (v + 1) = i by omega]
    have hm := h.at_mem hi
    have hl := (h.hi _ hm).1
    obtain ⟨h1, h2, h3, h4⟩ := h.cC_ok hm
    have e1 : hH cs v (v + 1 + i) = max 1 ((cs.getD i ([], 0)).1.length : Int) := by unfold hH; rw [if_neg c, ei]
    rw [e1]
    exact once_sim (h := max 1 ((cs.getD i ([], 0)).1.length : Int)) (by omega) (c := fun t => cC cs v (cs.getD i ([], 0)) t) (cum := fun t => cumC cs v (cs.getD i ([], 0)) t) (x := fun t => hX cs v t (v + 1 + i)) (V := fun t => hV cs v t (v + 1 + i)) (F := fun t => hoF cs v t (v + 1 + i)) h1 h2 h3 h4 (fun t => h.clause hi t) (fun t => by unfold hX; rw [if_neg c, ei]) rfl (fun t => by show (stepV (setTh (onceP 0) (hH cs v (v + 1 + i))) _ _).1 = _; rw [e1]) t
theorem horn_inX {t d : Nat} (hd : d < v + 1 + cs.length) : inX (hornSs cs v) (hoF cs v) idl0 t d = hX cs v t d := by
  have e1 : ((t : Int) - 1).toNat = t - 1 := by omega
  have eI : srcF (hoF cs v) idl0 (t - 1) (-1 - 0) = decide (t - 1 = 0) := by
    unfold srcF idl0
    rw [if_neg (by omega)]
    by_cases c : t - 1 = 0
    · rw [if_pos c]; simp [c]
    · rw [if_neg c]; simp [c]
  unfold inX hornSs hX
  rw [sumI_app, selves_sum, if_pos ⟨by omega, by omega⟩, Int.add_comm]
  congr 1
  unfold clTo
  rw [sumI_fm]
  by_cases c : d < v + 1
  · rw [if_pos c]
    unfold cT
    rw [← sumI_getD (d := ([], 0))]
    refine sumI_congr (fun i hi => ?_)
    have hi' := List.mem_range.1 hi
    have hm := h.at_mem hi'
    have ei : claAt cs v (v + 1 + i) = cs.getD i ([], 0) := by unfold claAt; rw [show v + 1 + i - (v + 1) = i by omega]
    generalize cs.getD i ([], 0) = x at hm ei
    have hb := h.hi x hm
    unfold clS
    rw [sumI_app, sumI_app, sumI_map, sumI_zero (fun p _ => if_neg (fun cc => by have := cc.1; dsimp only at this; omega))]
    have e2 : ∀ f : Syn → Int, f ⟨-1 - 0, ((v + 1 + i : Nat) : Int), 1, 1⟩ = 0 → sumI f (if x.1.length = 0 then [⟨-1 - 0, ((v + 1 + i : Nat) : Int), 1, 1⟩] else []) = 0 := fun f hf => by
      split
      · simp only [sumI, hf]; rfl
      · rfl
    rw [e2 _ (if_neg (fun cc => by have := cc.1; dsimp only at this; omega))]
    simp only [sumI]
    have e3 : srcF (hoF cs v) idl0 (t - 1) ((v + 1 + i : Nat) : Int) = decide (rdy cs v x ∧ ((t - 1 : Nat) : Int) = 2 * mx cs v x + 1) := by
      rw [AutOK.src_of]; unfold hoF; rw [if_neg (by omega), ei]
    rw [e1, e3]
    have e4 : ((if x.2 < 0 then (v : Int) else x.2) = (d : Int)) ↔ toN v x = d := by
      unfold toN
      split
      · omega
      · omega
    have h0 := mx_0 (cs := cs) (v := v) x
    by_cases c2 : toN v x = d ∧ rdy cs v x ∧ (t : Int) = 2 * mx cs v x + 2
    · rw [if_pos c2, if_pos ⟨e4.2 c2.1, by omega, by rw [decide_eq_true_eq]; exact ⟨c2.2.1, by omega⟩⟩]; rfl
    · rw [if_neg c2, if_neg (fun cc => by
        have := decide_eq_true_eq.mp cc.2.2
        exact c2 ⟨e4.1 cc.1, this.1, by have := this.2; have := cc.2.1; omega⟩)]; rfl
  · rw [if_neg c]
    obtain ⟨i, rfl⟩ : ∃ i, d = v + 1 + i := ⟨d - (v + 1), by omega⟩
    have hi : i < cs.length := by omega
    have ei : claAt cs v (v + 1 + i) = cs.getD i ([], 0) := by unfold claAt; rw [show v + 1 + i - (v + 1) = i by omega]
    rw [ei, sumI_at hi (fun j hj hne => ?_)]
    · have hm := h.at_mem hi
      generalize cs.getD i ([], 0) = x at hm
      have hb := h.hi x hm
      unfold clS cC
      rw [sumI_app, sumI_app, sumI_map]
      have e5 : ∀ f : Syn → Int, f ⟨((v + 1 + i : Nat) : Int), if x.2 < 0 then (v : Int) else x.2, 1, 1⟩ = 0 → sumI f [⟨((v + 1 + i : Nat) : Int), if x.2 < 0 then (v : Int) else x.2, 1, 1⟩] = 0 := fun f hf => by simp only [sumI, hf]; rfl
      rw [e5 _ (if_neg (fun cc => by have := cc.1; dsimp only at this; split at this <;> omega)), Int.add_zero]
      congr 1
      · refine sumI_congr (fun p hp => ?_)
        have hp' := h.prem_lt hm hp
        have e6 : srcF (hoF cs v) idl0 (t - 1) p = decide (0 < lev cs v p.toNat ∧ ((t - 1 : Nat) : Int) = 2 * lev cs v p.toNat) := by
          unfold srcF; rw [if_pos hp'.1]; unfold hoF; rw [if_pos hp'.2.1]
        dsimp only
        rw [e1, e6]
        by_cases c2 : 0 < lev cs v p.toNat ∧ (t : Int) = 2 * lev cs v p.toNat + 1
        · rw [if_pos c2, if_pos ⟨rfl, by omega, by rw [decide_eq_true_eq]; omega⟩]
        · rw [if_neg c2, if_neg (fun cc => by have := decide_eq_true_eq.mp cc.2.2; have := cc.2.1; omega)]
      · by_cases c3 : x.1.length = 0
        · rw [if_pos c3]
          simp only [sumI]
          rw [e1, eI]
          by_cases c4 : t = 1
          · rw [if_pos ⟨trivial, by omega, by simp [c4]⟩, if_pos ⟨c3, c4⟩]; rfl
          · rw [if_neg (fun cc => by have := decide_eq_true_eq.mp cc.2.2; have := cc.2.1; omega), if_neg (fun cc => c4 cc.2)]; rfl
        · rw [if_neg c3, if_neg (fun cc => c3 cc.1)]; rfl
    · have hm := h.at_mem hj
      generalize cs.getD j ([], 0) = x at hm
      have hb := h.hi x hm
      refine sumI_zero (fun y hy => if_neg (fun cc => ?_))
      have hdst := cc.1
      unfold clS at hy
      rcases List.mem_append.1 hy with hy | hy
      · rcases List.mem_append.1 hy with hy | hy
        · obtain ⟨p, _, rfl⟩ := List.mem_map.1 hy; dsimp only at hdst; omega
        · split at hy
          · obtain rfl := List.mem_singleton.1 hy; dsimp only at hdst; omega
          · cases hy
      · obtain rfl := List.mem_singleton.1 hy; dsimp only at hdst; split at hdst <;> omega
theorem ss_in {y : Syn} (hy : y ∈ hornSs cs v) : -1 ≤ y.src ∧ y.src < ((v + 1 + cs.length : Nat) : Int) ∧ 0 ≤ y.dst ∧ y.dst < ((v + 1 + cs.length : Nat) : Int) ∧ -32768 ≤ y.wt ∧ y.wt ≤ 32768 ∧ y.dl = 1 := by
  unfold hornSs at hy
  rcases List.mem_append.1 hy with hy | hy
  · obtain ⟨j, _, h5, rfl⟩ := selves_mem hy; dsimp only; omega
  · unfold clTo at hy
    obtain ⟨i, hi, hy⟩ := List.mem_flatMap.1 hy
    have hi' := List.mem_range.1 hi
    have hm := h.at_mem hi'
    generalize cs.getD i ([], 0) = x at hm hy
    have hb := h.hi x hm
    unfold clS at hy
    rcases List.mem_append.1 hy with hy | hy
    · rcases List.mem_append.1 hy with hy | hy
      · obtain ⟨p, hp, rfl⟩ := List.mem_map.1 hy
        have := hb.2.2.1 p hp
        dsimp only; omega
      · split at hy
        · obtain rfl := List.mem_singleton.1 hy; dsimp only; omega
        · cases hy
    · obtain rfl := List.mem_singleton.1 hy; dsimp only; split <;> omega
theorem ns_len : (hornNs cs v).length = v + 1 + cs.length := by unfold hornNs; simp
theorem ns_in {p : Prm} (hp : p ∈ hornNs cs v) : nCheck p = 0 ∧ p.rest = 0 := by
  unfold hornNs at hp
  rcases List.mem_append.1 hp with hp | hp
  · obtain rfl := List.eq_of_mem_replicate hp; exact ⟨once_ok (h := 1) (by omega) (by omega), rfl⟩
  · obtain ⟨c, hc, rfl⟩ := List.mem_map.1 hp
    have := (h.hi c hc).1
    exact ⟨once_ok (h := max 1 (c.1.length : Int)) (by omega) (by omega), rfl⟩
theorem ns_at {d : Nat} {p : Prm} (hp : (hornNs cs v)[d]? = some p) : d < v + 1 + cs.length ∧ p = setTh (onceP 0) (hH cs v d) := by
  have hd : d < v + 1 + cs.length := by have := (List.getElem?_eq_some_iff.1 hp).1; rwa [h.ns_len] at this
  refine ⟨hd, ?_⟩
  unfold hornNs at hp
  unfold hH
  by_cases c : d < v + 1
  · rw [List.getElem?_append_left (by simpa using c), List.getElem?_replicate, if_pos c] at hp
    rw [if_pos c]
    cases hp; rfl
  · rw [List.getElem?_append_right (by simp; omega), List.length_replicate, List.getElem?_map] at hp
    rw [if_neg c]
    obtain ⟨x, hx, rfl⟩ := Option.map_eq_some_iff.1 hp
    unfold claAt
    rw [getD_at hx]; rfl
theorem horn_net : netCheck (hornN cs v) = 0 := by
  have h1 := h.hv; have h2 := h.hl
  have hss : (hornSs cs v).length ≤ 91 + 60 * 18 := by
    have := clTo_len (m := v) (cs := cs) (fun x hx => by have := (h.hi x hx).1; omega) cs.length (Nat.le_refl _)
    unfold hornSs; rw [List.length_append, selves_len]; omega
  have e1 : firstE nCheck (hornNs cs v) = 0 := firstE_all (fun p hp => (h.ns_in hp).1)
  have e2 : firstE (synE (hornNs cs v).length 1) (hornSs cs v) = 0 := firstE_all (fun y hy => by
    have := h.ss_in hy
    unfold synE
    rw [if_pos]
    rw [h.ns_len]
    unfold wi; omega)
  unfold netCheck hornN
  dsimp only
  rw [h.ns_len] at e2 ⊢
  rw [if_neg (by omega), if_neg (by omega), if_neg (by omega), if_neg (by rw [e1]; decide)]
  exact e2
theorem ev1 : evF idl0 0 (2 * v + 10) = [⟨0, 0⟩] := by
  rw [show 2 * v + 10 = 1 + (2 * v + 9) by omega, evF_more (T := 1) (fun t ht => by unfold idl0; rw [if_neg (by omega)])]
  rfl
theorem horn_prep : preparedE ⟨(hornN cs v).ns, (hornN cs v).inp, (hornN cs v).ss⟩ [⟨0, 0⟩] (2 * (v : Int) + 10) 10000 = 0 := by
  have h0 := h.hv
  have h1 := h.horn_net
  unfold preparedE
  rw [if_neg (by rw [show netCheck ⟨(hornN cs v).ns, (hornN cs v).inp, (hornN cs v).ss⟩ = 0 from h1]; decide), if_pos (by unfold wi; omega)]
  unfold orderedE
  rw [if_neg (by decide), ← h.ev1]
  refine evF_ord (fun k => ?_) (fun k i hi => ?_) (2 * v + 10) 0 none (by omega) (fun e h => by cases h)
  · unfold idl0; split <;> simp
  · unfold idl0 at hi
    split at hi
    · obtain rfl := List.mem_singleton.1 hi; show (0 : Int) ≤ 0 ∧ (0 : Int) ≤ (1 : Int) - 1; decide
    · cases hi
theorem hX_b (t d : Nat) (hd : d < v + 1 + cs.length) : -40000 ≤ hX cs v t d ∧ hX cs v t d ≤ 10000 := by
  unfold hX
  by_cases c : d < v + 1
  · obtain ⟨h1, h2, h3, h4⟩ := h.cT_ok d
    have a1 := h1 t; have a2 := h3 t; have a3 := h4 (t + 1)
    have a4 : 0 ≤ cumT cs v d t := (cnt_nn (P := fun c : CLA => toN v c = d ∧ rdy cs v c ∧ 2 * mx cs v c + 2 < (t : Int)) cs).1
    rw [if_pos c]; split <;> omega
  · obtain ⟨i, rfl⟩ : ∃ i, d = v + 1 + i := ⟨d - (v + 1), by omega⟩
    have hi : i < cs.length := by omega
    have ei : claAt cs v (v + 1 + i) = cs.getD i ([], 0) := by unfold claAt; rw [show v + 1 + i - (v + 1) = i by omega]
    have hm := h.at_mem hi
    obtain ⟨h1, h2, h3, h4⟩ := h.cC_ok hm
    have a1 := h1 t; have a2 := h3 t; have a3 := h4 (t + 1)
    have a4 : 0 ≤ cumC cs v (cs.getD i ([], 0)) t := by
      have := (cnt_nn (P := fun p : Int => 0 < lev cs v p.toNat ∧ 2 * lev cs v p.toNat + 1 < (t : Int)) (cs.getD i ([], 0)).1).1
      unfold cumC; split <;> omega
    rw [if_neg c, ei]; split <;> omega
theorem horn_run : runN ⟨(hornN cs v).ns, (hornN cs v).inp, (hornN cs v).ss⟩ [⟨0, 0⟩] (2 * v + 10) = some (outH cs v) := by
  have h1 := h.hv; have h2 := h.hl
  have hr := sim_run (ns := hornNs cs v) (ip := 1) (ss := hornSs cs v) (F := hoF cs v) (idl := idl0) (V := hV cs v) (T := 2 * v + 10)
    ⟨fun p hp => h.ns_in hp,
     fun y hy => by have := h.ss_in hy; rw [h.ns_len]; omega,
     fun t => by
      unfold idl0
      split
      · exact ⟨by simp, fun i hi => by obtain rfl := List.mem_singleton.1 hi; decide⟩
      · exact ⟨by simp, fun i hi => by cases hi⟩⟩
    (fun d => rfl)
    (fun t d _ hd => by
      rw [h.ns_len] at hd
      have := h.hX_b t d hd
      rw [h.horn_inX hd]; omega)
    (fun t d p _ hp => by
      obtain ⟨hd, rfl⟩ := h.ns_at hp
      rw [h.horn_inX hd]
      exact Prod.ext rfl (h.fires hd t))
    (by rw [h.ns_len]; have : (2 * v + 10) * (v + 1 + cs.length) ≤ 70 * 91 := Nat.mul_le_mul (by omega) (by omega); omega)
  rw [h.ns_len, h.ev1] at hr
  exact hr
theorem horn_ok : hornP (v : Int) cs = .ok (hornN cs v) := by
  have h1 := h.hv; have h2 := h.hl
  unfold hornP
  rw [if_pos (by unfold wi; omega), if_neg (by omega), if_neg]
  · rw [Int.toNat_natCast]; rfl
  · rw [firstE_all (fun c hc => ?_)]
    · decide
    · have hb := h.hi c hc
      have hs : setE (v : Int) c.1 = 0 := by
        unfold setE
        rw [if_pos (fun x hx => by have := hb.2.2.1 x hx; unfold wi; omega), if_pos hb.2.1]
      unfold claE
      rw [if_neg (by omega), if_neg (by rw [hs]; decide), if_pos (by unfold wi; omega)]
theorem outh_mem {x : Evt} (hx : x ∈ outH cs v) : ∃ d t : Nat, x = ⟨(t : Int), (d : Int)⟩ ∧ d < v + 1 + cs.length ∧ (d < v + 1 → 0 < lev cs v d ∧ (t : Int) = 2 * lev cs v d) := by
  unfold outH outF at hx
  obtain ⟨t, ht, hx⟩ := List.mem_flatMap.1 hx
  obtain ⟨d, hd, rfl⟩ := List.mem_map.1 hx
  obtain ⟨h1, h2⟩ := List.mem_filter.1 hd
  refine ⟨d, t, rfl, List.mem_range.1 h1, fun c => ?_⟩
  unfold hoF at h2
  rw [if_pos c, decide_eq_true_eq] at h2
  exact h2
theorem outh_cnt {i : Nat} (hi : i < v + 1) : ((outH cs v).filter (fun e => decide (e.id = (i : Int)))).length = if 0 < lev cs v i then 1 else 0 := by
  have hq := h.q3 hi
  unfold outH
  rw [outF_cnt _ (show i < v + 1 + cs.length by omega)]
  have hF : ∀ t, hoF cs v t i = decide (0 < lev cs v i ∧ (t : Int) = 2 * lev cs v i) := fun t => by unfold hoF; rw [if_pos hi]
  by_cases c : 0 < lev cs v i
  · rw [if_pos c, filt_one (a := (2 * lev cs v i).toNat) (by omega) (fun t ht => by rw [hF, decide_eq_true_eq]; omega)]; rfl
  · rw [if_neg c, filt_none (fun t ht => by rw [hF, decide_eq_true_eq]; omega)]; rfl
theorem outh_l : (outH cs v).length ≤ 10000 := by
  have h1 := h.hv; have h2 := h.hl
  have := outF_len (hoF cs v) (v + 1 + cs.length) (2 * v + 10)
  have h3 : (2 * v + 10) * (v + 1 + cs.length) ≤ 70 * 91 := Nat.mul_le_mul (by omega) (by omega)
  unfold outH; omega
theorem rn_fin {d : Nat} (hd : d < v + 1) : (rnL cs v (v + 2))[d]? = some (lev cs v d) := getD_some (by rw [rnL_len]; exact hd)
end HOK
theorem cntL_skip {l : List Evt} {k n : Nat} {x : Evt} (hx : l[k]? = some x) (hn : (n : Int) ≤ x.id) : cntL n (l.take (k + 1)) = cntL n (l.take k) := by
  unfold cntL
  refine List.map_congr_left (fun d hd => ?_)
  have hd := List.mem_range.1 hd
  rw [List.take_add_one, hx, List.filter_append, List.length_append]
  have : ([x].filter (fun e => decide (e.id = (d : Int)))).length = 0 := by
    have : ¬ x.id = (d : Int) := fun e => by omega
    simp [this]
  show (((_ : Nat) + ([x].filter (fun e => decide (e.id = (d : Int)))).length : Nat) : Int) = _
  rw [this]; rfl
end
end Go.Proofs.Ytilcdghliigngaa
namespace Go.Proofs.Ytilcdghliigngaa
open Go.RowKit Go.Proofs.YtilcdghliigngaaGl Go.Proofs.YtilcdghliigngaaPm
set_option linter.unusedVariables false
set_option linter.unusedSimpArgs false
def ifL (v : Nat) (l : List Int) : Nat → List Int
  | 0 => []
  | j + 1 => if j < 5 ∧ ¬ uW (l.getD j 0) % (v : Int) ∈ ifL v l j then ifL v l j ++ [uW (l.getD j 0) % (v : Int)] else ifL v l j
theorem ifL_ok {v : Nat} (hv : 1 ≤ v) (l : List Int) : ∀ j, (ifL v l j).length ≤ j ∧ (ifL v l j).length ≤ 5 ∧ (ifL v l j).Nodup ∧ ∀ t ∈ ifL v l j, 0 ≤ t ∧ t < (v : Int)
  | 0 => ⟨Nat.zero_le _, Nat.zero_le _, by simp [ifL], fun t ht => by simp [ifL] at ht⟩
  | j + 1 => by
    obtain ⟨h1, h2, h3, h4⟩ := ifL_ok hv l j
    unfold ifL
    split
    · rename_i hc
      refine ⟨by simp; omega, by simp; omega, ?_, fun t ht => ?_⟩
      · rw [List.nodup_append]
        exact ⟨h3, by simp, fun a ha b hb e => hc.2 (by rw [← List.mem_singleton.1 hb, ← e]; exact ha)⟩
      · rcases List.mem_append.1 ht with ht | ht
        · exact h4 t ht
        · obtain rfl := List.mem_singleton.1 ht
          exact ⟨Int.emod_nonneg _ (by omega), Int.emod_lt_of_pos _ (by omega)⟩
    · exact ⟨by omega, h2, h3, h4⟩
def mkC (v : Nat) (c : CLA) : CLA := (ifL v c.1 c.1.length, uW c.2 % ((v + 1 : Nat) : Int) - 1)
def mkH (v : Nat) (ls : List CLA) : List CLA := ls.map (mkC v)
theorem mkH_ok {v : Nat} {ls : List CLA} (hv : 1 ≤ v ∧ v ≤ 30) (hl : ls.length ≤ 60) : HOK (mkH v ls) v where
  hv := hv
  hl := by unfold mkH; simpa using hl
  hi := fun c hc => by
    obtain ⟨x, _, rfl⟩ := List.mem_map.1 hc
    obtain ⟨h1, h2, h3, h4⟩ := ifL_ok hv.1 x.1 x.1.length
    have h5 := Int.emod_nonneg (uW x.2) (show ((v + 1 : Nat) : Int) ≠ 0 by omega)
    have h6 := Int.emod_lt_of_pos (uW x.2) (show (0 : Int) < ((v + 1 : Nat) : Int) by omega)
    unfold mkC
    exact ⟨h2, h3, h4, by dsimp only; omega, by dsimp only; omega⟩
theorem toN_eq {v : Nat} {xr : List Int} {xt : Int} (h : -1 ≤ xt ∧ xt < (v : Int)) : (xt + (v : Int) + 1) % ((v + 1 : Nat) : Int) = ((toN v (xr, xt) : Nat) : Int) := by
  unfold toN
  by_cases c : xt < 0
  · rw [if_pos c, show xt + (v : Int) + 1 = (v : Int) by omega]
    exact Int.emod_eq_of_lt (by omega) (by omega)
  · rw [if_neg c, show xt + (v : Int) + 1 = xt + ((v + 1 : Nat) : Int) by omega, Int.add_emod_right, Int.emod_eq_of_lt (by omega) (by omega)]
    dsimp only; omega
theorem newL_yes {W : List Int} {v k : Nat} {cs : List CLA} {c : CLA} (hx : cs[k]? = some c) (h : holdB W v c = true) : newL W v (cs.take (k + 1)) = newL W v (cs.take k) ++ [((toN v c : Nat) : Int)] := by
  unfold newL; rw [List.take_add_one, hx, List.filter_append, List.map_append]; simp [h]
theorem newL_no {W : List Int} {v k : Nat} {cs : List CLA} {c : CLA} (hx : cs[k]? = some c) (h : holdB W v c = false) : newL W v (cs.take (k + 1)) = newL W v (cs.take k) := by
  unfold newL; rw [List.take_add_one, hx, List.filter_append, List.map_append]; simp [h]
theorem newL_len (W : List Int) (v : Nat) (cs : List CLA) : (newL W v cs).length ≤ cs.length := by
  unfold newL; rw [List.length_map]; exact List.length_filter_le _ _
theorem newL_b {W : List Int} {v : Nat} {cs : List CLA} (h : HOK cs v) {y : Int} (hy : y ∈ newL W v cs) : ∃ d : Nat, y = (d : Int) ∧ d < v + 1 := by
  obtain ⟨c, hc, rfl⟩ := List.mem_map.1 hy
  exact ⟨_, rfl, h.toN_lt (List.mem_filter.1 hc).1⟩
theorem setL_step {W l : List Int} {r : Int} {j d : Nat} (h : l[j]? = some (d : Int)) : setL W r (l.take (j + 1)) = (setL W r (l.take j)).set d r := by
  unfold setL; rw [List.take_add_one, h, List.foldl_append]; rfl
def cnt2 (cs : List CLA) (v i : Nat) : Int := if 0 < lev cs v i then 1 else 0
theorem cnt2_at {cs : List CLA} {v i : Nat} (h : HOK cs v) (hi : i < v + 1) : (cntL (v + 1) (outH cs v))[i]? = some (cnt2 cs v i) := by
  rw [getD_some (by rw [cntL_len]; exact hi), cntL_getD hi, h.outh_cnt hi]; unfold cnt2; split <;> rfl
theorem cnt2_eq {cs : List CLA} {v i : Nat} (h : 0 ≤ lev cs v i) : cnt2 cs v i = min 1 (lev cs v i) := by
  unfold cnt2; split <;> omega
theorem conclusions_c (nb : Int) (la : Option Addr) (lc : Nat) (ls : List CL) (w : World) (hL : RoCL w la ls) (hlen : ∀ l ∈ ls, l.1.2.length ≤ 17592186044416) (hnb : 0 ≤ nb ∧ nb ≤ 255) : Calls Try.prog 9 [.int .u8 nb, .slice la ls.length lc].toArray w fun e w' => e = .returned (.bool true) ∧ Sat w w' [] := by
  refine fstart Try.func9 rfl rfl (Sat.nil w) ?_
  refine Cd.seq ?_
  refine Cd.region ?_
  refine Ops.q (q_asg rfl) ?_
  refine Ops.to rfl ?_
  refine Cd.seq ?_
  refine Cd.seq ?_
  refine Cd.region ?_
  refine Ops.q (q_mv rfl) ?_
  refine Ops.q (q_len esz_52 rfl) ?_
  by_cases h1 : 60 < (ls.length : Int)
  · refine Ops.q (q_cmp rfl rfl (c_gt h1)) ?_
    refine Ops.to rfl ?_
    refine Cd.cond_t rfl ?_
    refine Cd.seq ?_
    refine Cd.region ?_
    refine Ops.cp en_13 rfl (fun w hs => works_c w) ?_
    refine Ops.q (q_asg rfl) ?_
    refine Ops.to rfl ?_
    refine Cd.rt (fn := Try.f9) [.bool true] (by with_reducible repeat (first | exact rq_here | apply rq_then | apply rq_block)) rfl ⟨rfl, trivial⟩ ?_
    intro w' hs'
    exact ⟨rfl, hs'.none⟩
  · refine Ops.q (q_cmp rfl rfl (c_ngt (by omega))) ?_
    refine Ops.to rfl ?_
    refine Cd.cond_f rfl ?_
    refine Cd.skipTo rfl ?_
    refine Cd.seq ?_
    refine Cd.region ?_
    refine Ops.q (q_mv rfl) ?_
    refine Ops.q (q_conv iK_5 iK_3 rfl (IntWalk.i64_in _ (by omega))) ?_
    refine Ops.q (q_ar rfl rfl (a_rem (by omega) (by omega))) ?_
    refine Ops.q (q_ar rfl rfl (a_add (by omega))) ?_
    refine Ops.q (q_asg rfl) ?_
    refine Ops.to rfl ?_
    refine Cd.seq ?_
    refine Cd.region ?_
    obtain ⟨v, hv⟩ : ∃ v : Nat, 1 + nb % 30 = (v : Int) := ⟨(1 + nb % 30).toNat, by omega⟩
    rw [hv]
    have hv30 : 1 ≤ v ∧ v ≤ 30 := by omega
    refine Ops.q (q_asg rfl) ?_
    refine Ops.to rfl ?_
    refine Cd.seq ?_
    refine Cd.seq ?_
    refine Cd.region ?_
    refine Ops.q (q_mv rfl) ?_
    refine Ops.q (q_len esz_52 rfl) ?_
    refine Ops.q (q_mv rfl) ?_
    refine Ops.to rfl ?_
    refine Cd.block ?_
    refine Cd.lp (σ := Nat × List CL × Option Addr × Nat) (fun s => s.1 ≤ ls.length ∧ s.2.1.map clP = mkH v ((ls.take s.1).map clP)) (fun s => [(5, .int .i64 (v : Int)), (40, .slice la ls.length lc), (41, .int .i64 (ls.length : Int)), (6, .slice s.2.2.1 s.2.1.length s.2.2.2), (42, .int .i64 (s.1 : Int))]) (fun s => [row s.2.2.1 s.2.2.2 55 2 s.2.1.length (s.2.1.flatMap eCl), rd (clR s.2.1)]) (fun s => ls.length - s.1) (0, [], none, 0) ⟨Nat.zero_le _, rfl⟩ ⟨rfl, rfl, rfl, rfl, rfl, trivial⟩ (fun _ hs => Sat.nilRow (rdNew (φ := clR []) hs (by intro w l hl; cases hl)) 55 2) ?_
    rintro ⟨k, lz, qa, qc⟩ hI
    dsimp only at hI
    change Cd _ _ _ _ _ _ _ [(5, .int .i64 (v : Int)), (40, .slice la ls.length lc), (41, .int .i64 (ls.length : Int)), (6, .slice qa lz.length qc), (42, .int .i64 (k : Int))] ([row qa qc 55 2 lz.length (lz.flatMap eCl), rd (clR lz)])
    have hI0 := hI
    have hI1 := hI.1
    have hlz : lz.length = k := by have := congrArg List.length hI.2; unfold mkH at this; simp only [List.length_map, List.length_take] at this; omega
    refine Cd.seq ?_
    refine Cd.region ?_
    by_cases hk : (k : Int) < (ls.length : Int)
    · refine Ops.q (q_cmp rfl rfl (c_lt hk)) ?_
      obtain ⟨⟨⟨⟨xa, xc⟩, xr⟩, xt⟩, hx⟩ : ∃ x, ls[k]? = some x := ⟨_, List.getElem?_eq_getElem (by omega)⟩
      have hxm := List.mem_iff_getElem?.2 ⟨k, hx⟩
      have hxe : RoL w xa eInt xr := hL.2 _ hxm
      have hxl : xr.length ≤ 17592186044416 := hlen _ hxm
      obtain ⟨lb, lo, rfl⟩ := RoL.pos hL.1 eCl_len hx
      have hm1 := Int.emod_nonneg (uW xt) (show ((v + 1 : Nat) : Int) ≠ 0 by omega)
      have hm2 := Int.emod_lt_of_pos (uW xt) (show (0 : Int) < ((v + 1 : Nat) : Int) by omega)
      refine Ops.to rfl ?_
      refine Cd.seq ?_
      refine Cd.cond_t rfl ?_
      refine Cd.skipTo rfl ?_
      refine Cd.seq ?_
      refine Cd.block ?_
      refine Cd.seq ?_
      refine Cd.region ?_
      refine Ops.q (q_ix (k := k) esz_52 rfl rfl (by omega)) ?_
      refine Ops.q (q_ldRN [.slice xa xr.length xc, .int .i64 xt] isA_55 sz_55 rfl (fun j u hu => hL.1.at eCl_len hx hu)) ?_
      refine Ops.alc [.slice none 0 0, .int .i64 0] zc_55 ?_
      intro b2
      refine Ops.stB [.slice xa xr.length xc, .int .i64 xt] [.slice xa xr.length xc, .int .i64 xt] sz_55 rfl rfl rfl (one rfl) .here rfl rfl ?_
      refine Ops.to rfl ?_
      refine Cd.seq ?_
      refine Cd.region ?_
      refine Ops.q (q_fa fo_55_1 rfl) ?_
      refine Ops.q (q_ldB isA_3 rfl .here rfl) ?_
      refine Ops.q (q_conv iK_3 iK_83 rfl (rfl)) ?_
      refine Ops.q (q_mv rfl) ?_
      refine Ops.q (q_ar rfl rfl (a_inc (by omega))) ?_
      refine Ops.q (q_conv iK_3 iK_83 rfl (u64_in (by omega))) ?_
      refine Ops.q (q_ar (v := uW xt % ((v + 1 : Nat) : Int)) rfl rfl (a_remU (uW_0 _) (by omega))) ?_
      refine Ops.q (q_conv iK_83 iK_3 rfl (IntWalk.i64_in _ (by omega))) ?_
      refine Ops.q (q_ar rfl rfl (a_sub (by omega))) ?_
      refine Ops.q (q_bld [.slice none 0 0, .int .i64 ((uW xt % ((v + 1 : Nat) : Int)) - 1)] pls_55 zc_55 rfl rfl) ?_
      refine Ops.alc [.slice none 0 0, .int .i64 0] zc_55 ?_
      intro b3
      refine Ops.stB [.slice none 0 0, .int .i64 ((uW xt % ((v + 1 : Nat) : Int)) - 1)] [.slice none 0 0, .int .i64 ((uW xt % ((v + 1 : Nat) : Int)) - 1)] sz_55 rfl rfl rfl (one rfl) .here rfl rfl ?_
      refine Ops.to rfl ?_
      refine Cd.seq ?_
      refine Cd.seq ?_
      refine Cd.region ?_
      refine Ops.q (q_fa fo_55_0 rfl) ?_
      refine Ops.q (q_ldB isA_26 rfl (.there .here) rfl) ?_
      refine Ops.q (q_len esz_26 rfl) ?_
      refine Ops.q (q_mv rfl) ?_
      refine Ops.to rfl ?_
      refine Cd.block ?_
      refine Cd.lp (σ := Nat × Option Addr × Nat) (fun s => s.1 ≤ xr.length) (fun s => [(5, .int .i64 (v : Int)), (6, .slice qa lz.length qc), (9, .pointer (some ⟨b3, 0, none⟩)), (40, .slice (some ⟨lb, lo, none⟩) ls.length lc), (41, .int .i64 (ls.length : Int)), (42, .int .i64 (k : Int)), (57, .slice xa xr.length xc), (58, .int .i64 (xr.length : Int)), (59, .int .i64 (s.1 : Int))]) (fun s => [blk b3 55 [.slice s.2.1 ((ifL v xr s.1).length) s.2.2, .int .i64 ((uW xt % ((v + 1 : Nat) : Int)) - 1)], row s.2.1 s.2.2 3 1 ((ifL v xr s.1).length) ((ifL v xr s.1).flatMap eInt), row qa qc 55 2 lz.length (lz.flatMap eCl), rd (clR lz)]) (fun s => xr.length - s.1) (0, none, 0) (Nat.zero_le _) ⟨rfl, rfl, rfl, rfl, rfl, rfl, rfl, rfl, rfl, trivial⟩ (fun _ hs => by have h1 := (((((hs.pull (.there (.there (.there .here)))).pull (.there (.there (.there .here)))).pull (.there (.there .here))).pull (.there (.there (.there .here)))).drop).nilRow 3 1; exact h1.pull (.there .here)) ?_
      rintro ⟨j, ra, rc⟩ hI
      dsimp only at hI
      change Cd _ _ _ _ _ _ _ [(5, .int .i64 (v : Int)), (6, .slice qa lz.length qc), (9, .pointer (some ⟨b3, 0, none⟩)), (40, .slice (some ⟨lb, lo, none⟩) ls.length lc), (41, .int .i64 (ls.length : Int)), (42, .int .i64 (k : Int)), (57, .slice xa xr.length xc), (58, .int .i64 (xr.length : Int)), (59, .int .i64 (j : Int))] ([blk b3 55 [.slice ra ((ifL v xr j).length) rc, .int .i64 ((uW xt % ((v + 1 : Nat) : Int)) - 1)], row ra rc 3 1 ((ifL v xr j).length) ((ifL v xr j).flatMap eInt), row qa qc 55 2 lz.length (lz.flatMap eCl), rd (clR lz)])
      refine Cd.seq ?_
      refine Cd.region ?_
      by_cases hj : (j : Int) < (xr.length : Int)
      · refine Ops.q (q_cmp rfl rfl (c_lt hj)) ?_
        obtain ⟨x4, hx5⟩ : ∃ x, xr[j]? = some x := ⟨_, List.getElem?_eq_getElem (by omega)⟩
        obtain ⟨ab6, ao7, rfl⟩ := RoL.pos hxe eInt_len hx5
        have hgx : xr.getD j 0 = x4 := getD_at hx5
        have hil := ifL_ok hv30.1 xr j
        have hp1 := Int.emod_nonneg (uW x4) (show (v : Int) ≠ 0 by omega)
        have hp2 := Int.emod_lt_of_pos (uW x4) (show (0 : Int) < (v : Int) by omega)
        refine Ops.to rfl ?_
        refine Cd.seq ?_
        refine Cd.cond_t rfl ?_
        refine Cd.skipTo rfl ?_
        refine Cd.seq ?_
        refine Cd.block ?_
        refine Cd.seq ?_
        refine Cd.region ?_
        refine Ops.q (q_mv rfl) ?_
        refine Ops.q (q_ix (k := j) esz_26 rfl rfl (by omega)) ?_
        refine Ops.q (q_ldR isA_3 rfl (hxe.at0 eInt_len hx5 rfl)) ?_
        refine Ops.q (q_asg rfl) ?_
        refine Ops.q (q_asg rfl) ?_
        refine Ops.to rfl ?_
        refine Cd.seq ?_
        refine Cd.region ?_
        refine Ops.q (q_mv rfl) ?_
        refine Ops.q (q_conv iK_3 iK_83 rfl (rfl)) ?_
        refine Ops.q (q_mv rfl) ?_
        refine Ops.q (q_conv iK_3 iK_83 rfl (u64_in (by omega))) ?_
        refine Ops.q (q_ar (v := uW x4 % (v : Int)) rfl rfl (a_remU (uW_0 _) (by omega))) ?_
        refine Ops.q (q_conv iK_83 iK_3 rfl (IntWalk.i64_in _ (by omega))) ?_
        refine Ops.q (q_asg rfl) ?_
        refine Ops.to rfl ?_
        refine Cd.seq ?_
        refine Cd.region ?_
        refine Ops.q (q_mv rfl) ?_
        by_cases h5 : (j : Int) < 5
        · refine Ops.q (q_cmp rfl rfl (c_lt h5)) ?_
          refine Ops.q (q_mv rfl) ?_
          refine Ops.q (q_fa fo_55_0 rfl) ?_
          refine Ops.q (q_ldB isA_26 rfl .here rfl) ?_
          refine Ops.q (q_mv rfl) ?_
          by_cases h8 : (uW x4 % (v : Int)) ∈ (ifL v xr j)
          · refine Ops.cp en_41 rfl (fun w hs => dT (contains_c _ _ (ifL v xr j) (uW x4 % (v : Int)) w (hs.ownRo (.there .here)) (by omega)) h8) ?_
            refine Ops.q (q_not rfl) ?_
            refine Ops.q (q_pickT rfl rfl) ?_
            refine Ops.to rfl ?_
            refine Cd.cond_f rfl ?_
            refine Cd.skipTo rfl ?_
            refine Cd.region ?_
            refine Ops.q (q_ar rfl rfl (a_inc (by omega))) ?_
            refine Ops.q (q_mv rfl) ?_
            refine Ops.rnd ((j + 1, ra, rc)) rfl (by dsimp only; exact (by omega)) (by dsimp only; omega) ⟨rfl, rfl, rfl, rfl, rfl, rfl, rfl, rfl, rfl, trivial⟩ (fun _ hs => by have h1 := ((((hs.pull (.there (.there (.there .here)))).pull (.there (.there (.there .here)))).pull (.there (.there (.there .here)))).pull (.there (.there (.there .here)))); have h9 : ifL v xr (j + 1) = ifL v xr j := (by rw [ifL, hgx]; exact if_neg (fun c => by first | exact c.2 (by assumption) | (have := c.1; omega))); (try dsimp only); rw [h9]; exact h1) 
          · refine Ops.cp en_41 rfl (fun w hs => dF (contains_c _ _ (ifL v xr j) (uW x4 % (v : Int)) w (hs.ownRo (.there .here)) (by omega)) h8) ?_
            refine Ops.q (q_not rfl) ?_
            refine Ops.q (q_pickT rfl rfl) ?_
            refine Ops.to rfl ?_
            refine Cd.cond_t rfl ?_
            refine Cd.region ?_
            refine Ops.q (q_fa fo_55_0 rfl) ?_
            refine Ops.q (q_ldB isA_26 rfl .here rfl) ?_
            refine Ops.q (q_mv rfl) ?_
            refine Ops.lit [.int .i64 (uW x4 % (v : Int))] el_26 zsb_3 rfl rfl ⟨by decide, by decide⟩ rfl ?_
            intro b9
            refine Ops.app (news := [.int .i64 (uW x4 % (v : Int))]) el_26 zsb_3 (by decide) rfl rfl (fun _ hs => hs.ownRo .here) (fun _ hs => (hs.pull .here).drop) (fun _ _ => (.there .here)) rfl (one rfl) (by omega) (by omega) ?_
            intro a10 c11
            refine Ops.q (q_fa fo_55_0 rfl) ?_
            refine Ops.stB [.slice a10 (((ifL v xr j).length) + 1) c11] [.slice a10 (((ifL v xr j).length) + 1) c11, .int .i64 ((uW xt % ((v + 1 : Nat) : Int)) - 1)] sz_26 rfl rfl rfl (one rfl) .here rfl rfl ?_
            refine Ops.to rfl ?_
            refine Cd.region ?_
            refine Ops.q (q_ar rfl rfl (a_inc (by omega))) ?_
            refine Ops.q (q_mv rfl) ?_
            refine Ops.rnd ((j + 1, a10, c11)) rfl (by dsimp only; exact (by omega)) (by dsimp only; omega) ⟨rfl, rfl, rfl, rfl, rfl, rfl, rfl, rfl, rfl, trivial⟩ (fun _ hs => by have h1 := ((((hs.pull (.there (.there (.there .here)))).pull (.there (.there (.there .here)))).pull (.there (.there (.there .here)))).pull (.there (.there (.there .here)))); have h9 : ifL v xr (j + 1) = ifL v xr j ++ [uW x4 % (v : Int)] := (by rw [ifL, hgx]; exact if_pos ⟨by omega, by assumption⟩); (try dsimp only); rw [h9, List.length_append, fm_app]; exact h1) 
        · refine Ops.q (q_cmp rfl rfl (c_nlt (by omega))) ?_
          refine Ops.q (q_mv rfl) ?_
          refine Ops.sk ?_
          refine Ops.sk ?_
          refine Ops.sk ?_
          refine Ops.sk ?_
          refine Ops.sk ?_
          refine Ops.q (q_pickF rfl rfl) ?_
          refine Ops.to rfl ?_
          refine Cd.cond_f rfl ?_
          refine Cd.skipTo rfl ?_
          refine Cd.region ?_
          refine Ops.q (q_ar rfl rfl (a_inc (by omega))) ?_
          refine Ops.q (q_mv rfl) ?_
          refine Ops.rnd ((j + 1, ra, rc)) rfl (by dsimp only; exact (by omega)) (by dsimp only; omega) ⟨rfl, rfl, rfl, rfl, rfl, rfl, rfl, rfl, rfl, trivial⟩ (fun _ hs => by have h1 := ((((hs.pull (.there (.there (.there .here)))).pull (.there (.there (.there .here)))).pull (.there (.there (.there .here)))).pull (.there (.there (.there .here)))); have h9 : ifL v xr (j + 1) = ifL v xr j := (by rw [ifL, hgx]; exact if_neg (fun c => by first | exact c.2 (by assumption) | (have := c.1; omega))); (try dsimp only); rw [h9]; exact h1) 
      · refine Ops.q (q_cmp rfl rfl (c_nlt (by omega))) ?_
        have hj9 : j = xr.length := by omega
        rw [hj9]
        have hil := ifL_ok hv30.1 xr xr.length
        refine Ops.to rfl ?_
        refine Cd.seq ?_
        refine Cd.cond_f rfl ?_
        refine Cd.exitTo rfl ?_
        refine Cd.region ?_
        refine Ops.q (q_mv rfl) ?_
        refine Ops.q (q_ldBN [.slice ra ((ifL v xr xr.length).length) rc, .int .i64 ((uW xt % ((v + 1 : Nat) : Int)) - 1)] isA_55 sz_55 rfl .here rfl) ?_
        refine Ops.lit [.slice ra ((ifL v xr xr.length).length) rc, .int .i64 ((uW xt % ((v + 1 : Nat) : Int)) - 1)] el_52 zsb_55 rfl rfl ⟨by decide, by decide⟩ rfl ?_
        intro b12
        refine Ops.app (news := [.slice ra ((ifL v xr xr.length).length) rc, .int .i64 ((uW xt % ((v + 1 : Nat) : Int)) - 1)]) el_52 zsb_55 (by decide) rfl rfl (fun _ hs => hs.ownRo .here) (fun _ hs => (hs.pull .here).drop) (fun _ _ => (.there (.there .here))) rfl (one rfl) (by omega) (by omega) ?_
        intro a13 c14
        refine Ops.q (q_asg rfl) ?_
        refine Ops.to rfl ?_
        refine Cd.region ?_
        refine Ops.q (q_ar rfl rfl (a_inc (by omega))) ?_
        refine Ops.q (q_mv rfl) ?_
        refine Ops.rnd ((k + 1, lz ++ [(((ra, rc), (ifL v xr xr.length)), (uW xt % ((v + 1 : Nat) : Int)) - 1)], a13, c14)) rfl (by dsimp only; exact (⟨by omega, by rw [List.map_append, hI0.2, List.take_add_one, hx, List.map_append]; unfold mkH; rw [List.map_append]; rfl⟩)) (by dsimp only; omega) ⟨rfl, rfl, rfl, (by (try dsimp only); rw [List.length_append]; rfl), rfl, trivial⟩ (fun _ hs => by have h1 := ((((hs.pull (.there (.there .here))).pull (.there (.there .here))).pull (.there (.there (.there .here)))).pull (.there (.there (.there .here)))).drop; have h2 := rdGrow h1 (fun w p q => clR_grow (c := rc) (xt := (uW xt % ((v + 1 : Nat) : Int)) - 1) w p q); (try dsimp only); rw [fm_app, List.length_append]; exact h2.pull (.there .here)) 
    · refine Ops.q (q_cmp rfl rfl (c_nlt (by omega))) ?_
      have hk9 : k = ls.length := by omega
      obtain ⟨cs, hcs⟩ : ∃ cs, cs = mkH v (ls.map clP) := ⟨_, rfl⟩
      have hz : lz.map clP = cs := by rw [hI0.2, hk9, List.take_length, hcs]
      have hH : HOK cs v := by rw [hcs]; exact mkH_ok hv30 (by rw [List.length_map]; omega)
      have hcl : lz.length = cs.length := by rw [← hz, List.length_map]
      have hcl60 := hH.hl
      refine Ops.to rfl ?_
      refine Cd.seq ?_
      refine Cd.cond_f rfl ?_
      refine Cd.exitTo rfl ?_
      refine Cd.seq ?_
      refine Cd.region ?_
      refine Ops.q (q_mv rfl) ?_
      refine Ops.q (q_ar rfl rfl (a_inc (by omega))) ?_
      refine Ops.mks (m := (v + 1)) el_26 zsb_3 rfl rfl (by omega) (by omega) ?_
      intro wb
      refine Ops.q (q_asg rfl) ?_
      refine Ops.to rfl ?_
      refine Cd.seq ?_
      refine Cd.seq ?_
      refine Cd.region ?_
      rw [rep_int, show List.replicate (v + 1) (0 : Int) = rnL cs v 0 from rfl]
      refine Ops.q (q_asg rfl) ?_
      refine Ops.to rfl ?_
      refine Cd.block ?_
      refine Cd.lp (σ := Nat) (fun R => R ≤ v + 2) (fun R => [(5, .int .i64 (v : Int)), (6, .slice qa lz.length qc), (13, .slice (some ⟨wb, 0, none⟩) (v + 1) (v + 1)), (14, .int .i64 ((R + 1 : Nat) : Int))]) (fun R => [row (some ⟨wb, 0, none⟩) (v + 1) 3 1 (v + 1) ((rnL cs v R).flatMap eInt), row qa qc 55 2 lz.length (lz.flatMap eCl), rd (clR lz)]) (fun R => v + 2 - R) 0 (Nat.zero_le _) ⟨rfl, rfl, rfl, rfl, trivial⟩ (fun _ hs => (((hs.pull (.there (.there .here))).pull (.there (.there .here))).pull (.there (.there .here)))) ?_
      intro R hI
      refine Cd.seq ?_
      refine Cd.seq ?_
      refine Cd.region ?_
      refine Ops.q (q_mv rfl) ?_
      refine Ops.q (q_mv rfl) ?_
      refine Ops.q (q_ar rfl rfl (a_add (by omega))) ?_
      by_cases hR : ((R + 1 : Nat) : Int) ≤ (v : Int) + 2
      · refine Ops.q (q_cmp rfl rfl (c_le hR)) ?_
        refine Ops.to rfl ?_
        refine Cd.cond_t rfl ?_
        refine Cd.skipTo rfl ?_
        refine Cd.seq ?_
        refine Cd.block ?_
        refine Cd.seq ?_
        refine Cd.region ?_
        refine Ops.q (q_asg rfl) ?_
        refine Ops.to rfl ?_
        refine Cd.seq ?_
        refine Cd.seq ?_
        refine Cd.region ?_
        refine Ops.q (q_mv rfl) ?_
        refine Ops.q (q_len esz_52 rfl) ?_
        refine Ops.q (q_mv rfl) ?_
        refine Ops.to rfl ?_
        refine Cd.block ?_
        refine Cd.lp (σ := Nat × Option Addr × Nat) (fun s => s.1 ≤ lz.length) (fun s => [(5, .int .i64 (v : Int)), (6, .slice qa lz.length qc), (13, .slice (some ⟨wb, 0, none⟩) (v + 1) (v + 1)), (14, .int .i64 ((R + 1 : Nat) : Int)), (100, .slice qa lz.length qc), (101, .int .i64 (lz.length : Int)), (15, .slice s.2.1 ((newL (rnL cs v R) v (cs.take s.1)).length) s.2.2), (102, .int .i64 (s.1 : Int))]) (fun s => [row s.2.1 s.2.2 3 1 ((newL (rnL cs v R) v (cs.take s.1)).length) ((newL (rnL cs v R) v (cs.take s.1)).flatMap eInt), row (some ⟨wb, 0, none⟩) (v + 1) 3 1 (v + 1) ((rnL cs v R).flatMap eInt), row qa qc 55 2 lz.length (lz.flatMap eCl), rd (clR lz)]) (fun s => lz.length - s.1) (0, none, 0) (Nat.zero_le _) ⟨rfl, rfl, rfl, rfl, rfl, rfl, rfl, rfl, trivial⟩ (fun _ hs => by have h1 := ((((hs.pull (.there (.there .here))).pull (.there (.there .here))).pull (.there (.there .here)))).nilRow 3 1; exact h1) ?_
        rintro ⟨k, na, nc⟩ hI
        dsimp only at hI
        change Cd _ _ _ _ _ _ _ [(5, .int .i64 (v : Int)), (6, .slice qa lz.length qc), (13, .slice (some ⟨wb, 0, none⟩) (v + 1) (v + 1)), (14, .int .i64 ((R + 1 : Nat) : Int)), (100, .slice qa lz.length qc), (101, .int .i64 (lz.length : Int)), (15, .slice na ((newL (rnL cs v R) v (cs.take k)).length) nc), (102, .int .i64 (k : Int))] ([row na nc 3 1 ((newL (rnL cs v R) v (cs.take k)).length) ((newL (rnL cs v R) v (cs.take k)).flatMap eInt), row (some ⟨wb, 0, none⟩) (v + 1) 3 1 (v + 1) ((rnL cs v R).flatMap eInt), row qa qc 55 2 lz.length (lz.flatMap eCl), rd (clR lz)])
        refine Cd.seq ?_
        refine Cd.region ?_
        by_cases hk : (k : Int) < (lz.length : Int)
        · refine Ops.q (q_cmp rfl rfl (c_lt hk)) ?_
          obtain ⟨⟨⟨⟨xa, xc⟩, xr⟩, xt⟩, hx⟩ : ∃ x, lz[k]? = some x := ⟨_, List.getElem?_eq_getElem (by omega)⟩
          have hxm := List.mem_iff_getElem?.2 ⟨k, hx⟩
          have hxc : cs[k]? = some (xr, xt) := by rw [← hz, List.getElem?_map, hx]; rfl
          have hcm := List.mem_iff_getElem?.2 ⟨k, hxc⟩
          have hHi := hH.hi _ hcm
          dsimp only at hHi
          have hto := hH.toN_lt hcm
          have hrl := rnL_len (cs := cs) (v := v) R
          have hnl := newL_len (rnL cs v R) v (cs.take k)
          rw [List.length_take] at hnl
          refine Ops.rowpos (.there (.there .here)) (by omega) ?_
          rintro qb6 rfl
          refine Ops.to rfl ?_
          refine Cd.seq ?_
          refine Cd.cond_t rfl ?_
          refine Cd.skipTo rfl ?_
          refine Cd.seq ?_
          refine Cd.block ?_
          refine Cd.seq ?_
          refine Cd.region ?_
          refine Ops.q (q_ix (k := k) esz_52 rfl rfl (by omega)) ?_
          refine Ops.q (q_ldON [.slice xa xr.length xc, .int .i64 xt] isA_55 sz_55 rfl (.there (.there .here)) (fm_atN eCl_len hx)) ?_
          refine Ops.alc [.slice none 0 0, .int .i64 0] zc_55 ?_
          intro b15
          refine Ops.stB [.slice xa xr.length xc, .int .i64 xt] [.slice xa xr.length xc, .int .i64 xt] sz_55 rfl rfl rfl (one rfl) .here rfl rfl ?_
          refine Ops.to rfl ?_
          refine Cd.seq ?_
          refine Cd.region ?_
          refine Ops.q (q_fa fo_55_1 rfl) ?_
          refine Ops.q (q_ldB isA_3 rfl .here rfl) ?_
          refine Ops.q (q_mv rfl) ?_
          refine Ops.q (q_ar rfl rfl (a_add (by omega))) ?_
          refine Ops.q (q_ar rfl rfl (a_add (by omega))) ?_
          refine Ops.q (q_mv rfl) ?_
          refine Ops.q (q_ar rfl rfl (a_inc (by omega))) ?_
          refine Ops.q (q_ar (v := (((toN v (xr, xt)) : Nat) : Int)) rfl rfl ((by rw [a_rem (by omega) (by omega)]; exact congrArg some (toN_eq (xr := xr) (by omega))))) ?_
          refine Ops.q (q_asg rfl) ?_
          refine Ops.to rfl ?_
          refine Cd.seq ?_
          refine Cd.region ?_
          refine Ops.q (q_mv rfl) ?_
          refine Ops.q (q_mv rfl) ?_
          refine Ops.q (q_ix (k := (toN v (xr, xt))) esz_26 rfl rfl (by omega)) ?_
          refine Ops.q (q_ldO isA_3 rfl (.there (.there .here)) (fm_at0 eInt_len (getD_some (by omega)) rfl)) ?_
          refine Ops.q (q_cmp rfl rfl rfl) ?_
          refine Ops.q (q_asg rfl) ?_
          refine Ops.to rfl ?_
          refine Cd.seq ?_
          refine Cd.seq ?_
          refine Cd.region ?_
          refine Ops.q (q_fa fo_55_0 rfl) ?_
          refine Ops.q (q_ldB isA_26 rfl .here rfl) ?_
          refine Ops.q (q_len esz_26 rfl) ?_
          refine Ops.q (q_mv rfl) ?_
          refine Ops.to rfl ?_
          refine Cd.block ?_
          refine Cd.lp (σ := Nat × Bool) (fun s => s.1 ≤ xr.length ∧ s.2 = (decide ((rnL cs v R).getD (toN v (xr, xt)) 0 = 0) && (xr.take s.1).all (fun t => decide (0 < (rnL cs v R).getD t.toNat 0)))) (fun s => [(5, .int .i64 (v : Int)), (6, .slice (some ⟨qb6, 0, none⟩) lz.length qc), (13, .slice (some ⟨wb, 0, none⟩) (v + 1) (v + 1)), (14, .int .i64 ((R + 1 : Nat) : Int)), (15, .slice na ((newL (rnL cs v R) v (cs.take k)).length) nc), (100, .slice (some ⟨qb6, 0, none⟩) lz.length qc), (101, .int .i64 (lz.length : Int)), (102, .int .i64 (k : Int)), (18, .int .i64 (((toN v (xr, xt)) : Nat) : Int)), (120, .slice xa xr.length xc), (121, .int .i64 (xr.length : Int)), (19, .bool s.2), (122, .int .i64 (s.1 : Int))]) (fun s => [row na nc 3 1 ((newL (rnL cs v R) v (cs.take k)).length) ((newL (rnL cs v R) v (cs.take k)).flatMap eInt), row (some ⟨wb, 0, none⟩) (v + 1) 3 1 (v + 1) ((rnL cs v R).flatMap eInt), row (some ⟨qb6, 0, none⟩) qc 55 2 lz.length (lz.flatMap eCl), rd (clR lz)]) (fun s => xr.length - s.1) (0, ((rnL cs v R).getD (toN v (xr, xt)) 0) == 0) ⟨Nat.zero_le _, by (try dsimp only); rw [List.take_zero, List.all_nil, Bool.and_true]; rfl⟩ ⟨rfl, rfl, rfl, rfl, rfl, rfl, rfl, rfl, rfl, rfl, rfl, rfl, rfl, trivial⟩ (fun _ hs => (((((hs.pull (.there (.there (.there (.there .here))))).pull (.there (.there (.there (.there .here))))).pull (.there (.there (.there (.there .here))))).pull (.there (.there (.there (.there .here))))).pull (.there (.there (.there (.there .here))))).drop) ?_
          rintro ⟨j, b⟩ hI
          dsimp only at hI
          change Cd _ _ _ _ _ _ _ [(5, .int .i64 (v : Int)), (6, .slice (some ⟨qb6, 0, none⟩) lz.length qc), (13, .slice (some ⟨wb, 0, none⟩) (v + 1) (v + 1)), (14, .int .i64 ((R + 1 : Nat) : Int)), (15, .slice na ((newL (rnL cs v R) v (cs.take k)).length) nc), (100, .slice (some ⟨qb6, 0, none⟩) lz.length qc), (101, .int .i64 (lz.length : Int)), (102, .int .i64 (k : Int)), (18, .int .i64 (((toN v (xr, xt)) : Nat) : Int)), (120, .slice xa xr.length xc), (121, .int .i64 (xr.length : Int)), (19, .bool b), (122, .int .i64 (j : Int))] ([row na nc 3 1 ((newL (rnL cs v R) v (cs.take k)).length) ((newL (rnL cs v R) v (cs.take k)).flatMap eInt), row (some ⟨wb, 0, none⟩) (v + 1) 3 1 (v + 1) ((rnL cs v R).flatMap eInt), row (some ⟨qb6, 0, none⟩) qc 55 2 lz.length (lz.flatMap eCl), rd (clR lz)])
          have hI2 := hI.1
          have hIb := hI
          refine Cd.seq ?_
          refine Cd.region ?_
          by_cases hj8 : (j : Int) < (xr.length : Int)
          · refine Ops.q (q_cmp rfl rfl (c_lt hj8)) ?_
            obtain ⟨p, hp⟩ : ∃ x, xr[j]? = some x := ⟨_, List.getElem?_eq_getElem (by omega)⟩
            have hpb := hHi.2.2.1 p (List.mem_iff_getElem?.2 ⟨j, hp⟩)
            obtain ⟨pn, rfl⟩ : ∃ q : Nat, p = (q : Int) := ⟨p.toNat, by omega⟩
            refine Ops.ropos (a := xa) (cs := xr.flatMap eInt) (.there (.there (.there .here))) (fun w h => h _ hxm) (fm_pos eInt_len hp) ?_
            rintro xb xo rfl
            refine Ops.to rfl ?_
            refine Cd.seq ?_
            refine Cd.cond_t rfl ?_
            refine Cd.skipTo rfl ?_
            refine Cd.seq ?_
            refine Cd.block ?_
            refine Cd.seq ?_
            refine Cd.region ?_
            refine Ops.q (q_ix (k := j) esz_26 rfl rfl (by omega)) ?_
            refine Ops.q (q_ld (v := .int .i64 (pn : Int)) isA_3 rfl (fun w hs => RoL.at0 ((hs.read (.there (.there (.there .here)))) _ hxm) eInt_len hp rfl)) ?_
            refine Ops.q (q_asg rfl) ?_
            refine Ops.to rfl ?_
            by_cases hb16 : b = true
            · obtain rfl : b = true := by simpa using hb16
              refine Cd.region ?_
              refine Ops.q (q_mv rfl) ?_
              refine Ops.q (q_mv rfl) ?_
              refine Ops.q (q_mv rfl) ?_
              refine Ops.q (q_mv rfl) ?_
              refine Ops.q (q_ix (k := pn) esz_26 rfl rfl (by omega)) ?_
              refine Ops.q (q_ldO isA_3 rfl (.there .here) (fm_at0 eInt_len (getD_some (by omega)) rfl)) ?_
              by_cases hP : 0 < ((rnL cs v R).getD pn 0)
              · refine Ops.q (q_cmp rfl rfl (c_gt hP)) ?_
                refine Ops.q (q_pickT rfl rfl) ?_
                refine Ops.q (q_asg rfl) ?_
                refine Ops.to rfl ?_
                refine Cd.region ?_
                refine Ops.q (q_ar rfl rfl (a_inc (by omega))) ?_
                refine Ops.q (q_mv rfl) ?_
                refine Ops.rnd ((j + 1, true)) rfl (by dsimp only; exact (⟨by omega, by rw [all_step hp, ← Bool.and_assoc, ← hIb.2]; first | rfl | exact (decide_eq_true (p := 0 < (rnL cs v R).getD pn 0) (by omega)).symm | exact (decide_eq_false (p := 0 < (rnL cs v R).getD pn 0) (by omega)).symm⟩)) (by dsimp only; omega) ⟨rfl, rfl, rfl, rfl, rfl, rfl, rfl, rfl, rfl, rfl, rfl, rfl, rfl, trivial⟩ (fun _ hs => ((((hs.pull (.there (.there (.there .here)))).pull (.there (.there (.there .here)))).pull (.there (.there (.there .here)))).pull (.there (.there (.there .here))))) 
              · refine Ops.q (q_cmp rfl rfl (c_ngt (by omega))) ?_
                refine Ops.q (q_pickT rfl rfl) ?_
                refine Ops.q (q_asg rfl) ?_
                refine Ops.to rfl ?_
                refine Cd.region ?_
                refine Ops.q (q_ar rfl rfl (a_inc (by omega))) ?_
                refine Ops.q (q_mv rfl) ?_
                refine Ops.rnd ((j + 1, false)) rfl (by dsimp only; exact (⟨by omega, by rw [all_step hp, ← Bool.and_assoc, ← hIb.2]; first | rfl | exact (decide_eq_true (p := 0 < (rnL cs v R).getD pn 0) (by omega)).symm | exact (decide_eq_false (p := 0 < (rnL cs v R).getD pn 0) (by omega)).symm⟩)) (by dsimp only; omega) ⟨rfl, rfl, rfl, rfl, rfl, rfl, rfl, rfl, rfl, rfl, rfl, rfl, rfl, trivial⟩ (fun _ hs => ((((hs.pull (.there (.there (.there .here)))).pull (.there (.there (.there .here)))).pull (.there (.there (.there .here)))).pull (.there (.there (.there .here))))) 
            · obtain rfl : b = false := by simpa using hb16
              refine Cd.region ?_
              refine Ops.q (q_mv rfl) ?_
              refine Ops.q (q_mv rfl) ?_
              refine Ops.sk ?_
              refine Ops.sk ?_
              refine Ops.sk ?_
              refine Ops.sk ?_
              refine Ops.sk ?_
              refine Ops.q (q_pickF rfl rfl) ?_
              refine Ops.q (q_asg rfl) ?_
              refine Ops.to rfl ?_
              refine Cd.region ?_
              refine Ops.q (q_ar rfl rfl (a_inc (by omega))) ?_
              refine Ops.q (q_mv rfl) ?_
              refine Ops.rnd ((j + 1, false)) rfl (by dsimp only; exact (⟨by omega, by rw [all_step hp, ← Bool.and_assoc, ← hIb.2]; first | rfl | exact (decide_eq_true (p := 0 < (rnL cs v R).getD pn 0) (by omega)).symm | exact (decide_eq_false (p := 0 < (rnL cs v R).getD pn 0) (by omega)).symm⟩)) (by dsimp only; omega) ⟨rfl, rfl, rfl, rfl, rfl, rfl, rfl, rfl, rfl, rfl, rfl, rfl, rfl, trivial⟩ (fun _ hs => ((((hs.pull (.there (.there (.there .here)))).pull (.there (.there (.there .here)))).pull (.there (.there (.there .here)))).pull (.there (.there (.there .here))))) 
          · refine Ops.q (q_cmp rfl rfl (c_nlt (by omega))) ?_
            have hbh0 : b = (holdB (rnL cs v R) v (xr, xt)) := by rw [hI.2, List.take_of_length_le (by omega)]; rfl
            refine Ops.to rfl ?_
            refine Cd.seq ?_
            refine Cd.cond_f rfl ?_
            refine Cd.exitTo rfl ?_
            refine Cd.seq ?_
            by_cases hb17 : b = true
            · obtain rfl : b = true := by simpa using hb17
              have hbh := hbh0.symm
              refine Cd.region ?_
              refine Ops.q (q_mv rfl) ?_
              refine Ops.to rfl ?_
              refine Cd.cond_t rfl ?_
              refine Cd.region ?_
              refine Ops.q (q_mv rfl) ?_
              refine Ops.q (q_mv rfl) ?_
              refine Ops.lit [.int .i64 (((toN v (xr, xt)) : Nat) : Int)] el_26 zsb_3 rfl rfl ⟨by decide, by decide⟩ rfl ?_
              intro b18
              refine Ops.app (news := [.int .i64 (((toN v (xr, xt)) : Nat) : Int)]) el_26 zsb_3 (by decide) rfl rfl (fun _ hs => hs.ownRo .here) (fun _ hs => (hs.pull .here).drop) (fun _ _ => .here) rfl (one rfl) (by omega) (by omega) ?_
              intro a19 c20
              refine Ops.q (q_asg rfl) ?_
              refine Ops.to rfl ?_
              refine Cd.region ?_
              refine Ops.q (q_ar rfl rfl (a_inc (by omega))) ?_
              refine Ops.q (q_mv rfl) ?_
              refine Ops.rnd ((k + 1, a19, c20)) rfl (by dsimp only; exact (by omega)) (by dsimp only; omega) ⟨rfl, rfl, rfl, rfl, rfl, rfl, (by (try dsimp only); rw [newL_yes hxc hbh, List.length_append]; rfl), rfl, trivial⟩ (fun _ hs => by have h1 := ((((hs.pull (.there (.there (.there .here)))).pull (.there (.there (.there .here)))).pull (.there (.there (.there .here)))).pull (.there (.there (.there .here)))); (try dsimp only); rw [newL_yes hxc hbh, List.length_append, fm_app]; exact h1) 
            · obtain rfl : b = false := by simpa using hb17
              have hbh := hbh0.symm
              refine Cd.region ?_
              refine Ops.q (q_mv rfl) ?_
              refine Ops.to rfl ?_
              refine Cd.cond_f rfl ?_
              refine Cd.skipTo rfl ?_
              refine Cd.region ?_
              refine Ops.q (q_ar rfl rfl (a_inc (by omega))) ?_
              refine Ops.q (q_mv rfl) ?_
              refine Ops.rnd ((k + 1, na, nc)) rfl (by dsimp only; exact (by omega)) (by dsimp only; omega) ⟨rfl, rfl, rfl, rfl, rfl, rfl, (by (try dsimp only); rw [newL_no hxc hbh]; rfl), rfl, trivial⟩ (fun _ hs => by have h1 := ((((hs.pull (.there (.there (.there .here)))).pull (.there (.there (.there .here)))).pull (.there (.there (.there .here)))).pull (.there (.there (.there .here)))); (try dsimp only); rw [newL_no hxc hbh]; exact h1) 
        · refine Ops.q (q_cmp rfl rfl (c_nlt (by omega))) ?_
          rw [show k = cs.length by omega, List.take_length]
          have hnl := newL_len (rnL cs v R) v cs
          have hrl := rnL_len (cs := cs) (v := v) R
          refine Ops.to rfl ?_
          refine Cd.seq ?_
          refine Cd.cond_f rfl ?_
          refine Cd.exitTo rfl ?_
          refine Cd.seq ?_
          refine Cd.region ?_
          refine Ops.q (q_mv rfl) ?_
          refine Ops.q (q_len esz_26 rfl) ?_
          refine Ops.q (q_mv rfl) ?_
          refine Ops.to rfl ?_
          refine Cd.block ?_
          refine Cd.lp (σ := Nat) (fun j => j ≤ (newL (rnL cs v R) v cs).length) (fun j => [(5, .int .i64 (v : Int)), (6, .slice qa lz.length qc), (13, .slice (some ⟨wb, 0, none⟩) (v + 1) (v + 1)), (14, .int .i64 ((R + 1 : Nat) : Int)), (141, .slice na ((newL (rnL cs v R) v cs).length) nc), (142, .int .i64 ((newL (rnL cs v R) v cs).length : Int)), (143, .int .i64 (j : Int))]) (fun j => [row na nc 3 1 ((newL (rnL cs v R) v cs).length) ((newL (rnL cs v R) v cs).flatMap eInt), row (some ⟨wb, 0, none⟩) (v + 1) 3 1 (v + 1) ((setL (rnL cs v R) ((R + 1 : Nat) : Int) ((newL (rnL cs v R) v cs).take j)).flatMap eInt), row qa qc 55 2 lz.length (lz.flatMap eCl), rd (clR lz)]) (fun j => (newL (rnL cs v R) v cs).length - j) 0 (Nat.zero_le _) ⟨rfl, rfl, rfl, rfl, rfl, rfl, rfl, trivial⟩ (fun _ hs => ((((hs.pull (.there (.there (.there .here)))).pull (.there (.there (.there .here)))).pull (.there (.there (.there .here)))).pull (.there (.there (.there .here))))) ?_
          intro j hI
          refine Cd.seq ?_
          refine Cd.region ?_
          by_cases hj10 : (j : Int) < ((newL (rnL cs v R) v cs).length : Int)
          · refine Ops.q (q_cmp rfl rfl (c_lt hj10)) ?_
            obtain ⟨y, hy⟩ : ∃ x, (newL (rnL cs v R) v cs)[j]? = some x := ⟨_, List.getElem?_eq_getElem (by omega)⟩
            obtain ⟨yd, rfl, hyd⟩ := newL_b hH (List.mem_iff_getElem?.2 ⟨j, hy⟩)
            have hsl : (setL (rnL cs v R) ((R + 1 : Nat) : Int) ((newL (rnL cs v R) v cs).take j)).length = v + 1 := by rw [setL_len, rnL_len]
            refine Ops.rowpos .here (by omega) ?_
            rintro nb10 rfl
            refine Ops.to rfl ?_
            refine Cd.seq ?_
            refine Cd.cond_t rfl ?_
            refine Cd.skipTo rfl ?_
            refine Cd.seq ?_
            refine Cd.block ?_
            refine Cd.seq ?_
            refine Cd.region ?_
            refine Ops.q (q_ix (k := j) esz_26 rfl rfl (by omega)) ?_
            refine Ops.q (q_ldO isA_3 rfl .here (fm_at0 eInt_len hy rfl)) ?_
            refine Ops.q (q_asg rfl) ?_
            refine Ops.to rfl ?_
            refine Cd.region ?_
            refine Ops.q (q_mv rfl) ?_
            refine Ops.q (q_mv rfl) ?_
            refine Ops.q (q_mv rfl) ?_
            refine Ops.q (q_ix (k := yd) esz_26 rfl rfl (by omega)) ?_
            refine Ops.stO [.int .i64 ((R + 1 : Nat) : Int)] (((setL (rnL cs v R) ((R + 1 : Nat) : Int) ((newL (rnL cs v R) v cs).take j)).set yd ((R + 1 : Nat) : Int)).flatMap eInt) sz_3 rfl rfl rfl (one rfl) (.there .here) (by rw [fm_length eInt_len]; simp only [List.length_cons, List.length_nil]; omega) (fm_set eInt_len (setL (rnL cs v R) ((R + 1 : Nat) : Int) ((newL (rnL cs v R) v cs).take j)) yd ((R + 1 : Nat) : Int) (by omega)) ?_
            refine Ops.to rfl ?_
            refine Cd.region ?_
            refine Ops.q (q_ar rfl rfl (a_inc (by omega))) ?_
            refine Ops.q (q_mv rfl) ?_
            refine Ops.rnd (j + 1) rfl (by omega) (by omega) ⟨rfl, rfl, rfl, rfl, rfl, rfl, rfl, trivial⟩ (fun _ hs => by have h1 := ((((hs.pull (.there (.there (.there .here)))).pull (.there (.there (.there .here)))).pull (.there (.there (.there .here)))).pull (.there (.there (.there .here)))); (try dsimp only); rw [setL_step hy]; exact h1) 
          · refine Ops.q (q_cmp rfl rfl (c_nlt (by omega))) ?_
            rw [show j = (newL (rnL cs v R) v cs).length by omega, List.take_length]
            rw [show setL (rnL cs v R) ((R + 1 : Nat) : Int) (newL (rnL cs v R) v cs) = rnL cs v (R + 1) from rfl]
            refine Ops.to rfl ?_
            refine Cd.seq ?_
            refine Cd.cond_f rfl ?_
            refine Cd.exitTo rfl ?_
            refine Cd.region ?_
            refine Ops.q (q_mv rfl) ?_
            refine Ops.q (q_ar rfl rfl (a_inc (by omega))) ?_
            refine Ops.q (q_asg rfl) ?_
            refine Ops.rnd (R + 1) rfl (by omega) (by omega) ⟨rfl, rfl, rfl, rfl, trivial⟩ (fun _ hs => ((((hs.pull (.there (.there (.there .here)))).pull (.there (.there (.there .here)))).pull (.there (.there (.there .here)))).pull (.there (.there (.there .here)))).drop) 
      · refine Ops.q (q_cmp rfl rfl (c_nle (by omega))) ?_
        rw [show R = v + 2 by omega]
        refine Ops.to rfl ?_
        refine Cd.cond_f rfl ?_
        refine Cd.exitTo rfl ?_
        refine Cd.seq ?_
        refine Cd.region ?_
        refine Ops.q (q_mv rfl) ?_
        refine Ops.q (q_mv rfl) ?_
        refine Ops.cl (α := (Option Addr × Nat) × (Option Addr × Nat)) (v := fun x => .tuple [.agg [.slice x.1.1 (hornN cs v).ns.length x.1.2, .int .i64 (hornN cs v).inp, .slice x.2.1 (hornN cs v).ss.length x.2.2].toArray, .int .i64 0].toArray) (B := fun x => [row x.1.1 x.1.2 116 8 (hornN cs v).ns.length ((hornN cs v).ns.flatMap ePrm), row x.2.1 x.2.2 126 4 (hornN cs v).ss.length ((hornN cs v).ss.flatMap eSyn)]) en_26 rfl (fun w hs => retR_ok (horn_z hz ⟨hs.ownRo (.there .here), (hs.read (.there (.there .here)))⟩) hH.horn_ok) ?_
        rintro ⟨⟨p, pc⟩, ⟨p2, pc2⟩⟩
        refine Ops.q (q_mv rfl) ?_
        refine Ops.q (q_ext rfl rfl) ?_
        refine Ops.q (q_ext rfl rfl) ?_
        refine Ops.alc [.slice none 0 0, .int .i64 0, .slice none 0 0] zc_32 ?_
        intro b21
        refine Ops.stB [.slice p ((hornN cs v).ns.length) pc, .int .i64 ((hornN cs v).inp), .slice p2 ((hornN cs v).ss.length) pc2] [.slice p ((hornN cs v).ns.length) pc, .int .i64 ((hornN cs v).inp), .slice p2 ((hornN cs v).ss.length) pc2] sz_32 rfl rfl rfl (one rfl) .here rfl rfl ?_
        refine Ops.q (q_asg rfl) ?_
        refine Ops.to rfl ?_
        refine Cd.seq ?_
        refine Cd.seq ?_
        refine Cd.region ?_
        refine Ops.q (q_mv rfl) ?_
        refine Ops.q (q_cmp rfl rfl (c_nne (by decide))) ?_
        refine Ops.q (q_mv rfl) ?_
        refine Ops.q (q_ldBN [.slice p ((hornN cs v).ns.length) pc, .int .i64 ((hornN cs v).inp), .slice p2 ((hornN cs v).ss.length) pc2] isA_32 sz_32 rfl .here rfl) ?_
        refine Ops.cp en_35 rfl (fun w hs => chk0R (check_c _ _ _ _ (hornN cs v).ns (hornN cs v).inp (hornN cs v).ss w (hs.ownRo (.there .here)) (hs.ownRo (.there (.there .here)))) hH.horn_net) ?_
        refine Ops.q (q_cmp rfl rfl (c_nne (by decide))) ?_
        refine Ops.q (q_pickF rfl rfl) ?_
        refine Ops.to rfl ?_
        refine Cd.cond_f rfl ?_
        refine Cd.skipTo rfl ?_
        refine Cd.seq ?_
        refine Cd.region ?_
        refine Ops.q (q_ldBN [.slice p ((hornN cs v).ns.length) pc, .int .i64 ((hornN cs v).inp), .slice p2 ((hornN cs v).ss.length) pc2] isA_32 sz_32 rfl .here rfl) ?_
        refine Ops.q (q_bld [.int .i64 0, .int .i64 0] pls_88 zc_88 rfl rfl) ?_
        refine Ops.lit [.int .i64 0, .int .i64 0] el_27 zsb_88 rfl rfl ⟨by decide, by decide⟩ rfl ?_
        intro b22
        refine Ops.q (q_mv rfl) ?_
        refine Ops.q (q_ar rfl rfl (a_mul (by omega))) ?_
        refine Ops.q (q_ar rfl rfl (a_add (by omega))) ?_
        refine Ops.cl (α := Option Addr × Nat) (v := fun x => Value.tuple [Value.slice x.1 (outH cs v).length x.2, Value.int IntKind.i64 0].toArray) (B := fun x => [row x.1 x.2 88 2 (outH cs v).length ((outH cs v).flatMap eEvt)]) en_36 rfl (fun w hs => run_some_n _ _ _ _ (hornN cs v).ns (hornN cs v).inp (hornN cs v).ss _ _ [⟨0, 0⟩] 1 rfl (2 * (v : Int) + 10) w (hs.ownRo (.there (.there .here))) (hs.ownRo (.there (.there (.there .here)))) (hs.ownRo .here) (rowle_any hs .here) (outH cs v) hH.horn_prep (by rw [show (2 * (v : Int) + 10).toNat = 2 * v + 10 from by omega]; exact hH.horn_run)) ?_
        rintro ⟨oa, oac⟩
        refine Ops.q (q_mv rfl) ?_
        refine Ops.q (q_ext rfl rfl) ?_
        refine Ops.q (q_ext rfl rfl) ?_
        refine Ops.q (q_asg rfl) ?_
        refine Ops.q (q_asg rfl) ?_
        refine Ops.to rfl ?_
        refine Cd.seq ?_
        refine Cd.seq ?_
        refine Cd.region ?_
        refine Ops.q (q_mv rfl) ?_
        refine Ops.q (q_cmp rfl rfl (c_nne (by decide))) ?_
        refine Ops.to rfl ?_
        refine Cd.cond_f rfl ?_
        refine Cd.skipTo rfl ?_
        refine Cd.seq ?_
        refine Cd.region ?_
        refine Ops.q (q_mv rfl) ?_
        refine Ops.q (q_ar rfl rfl (a_inc (by omega))) ?_
        refine Ops.mks (m := (v + 1)) el_26 zsb_3 rfl rfl (by omega) (by omega) ?_
        intro cb
        refine Ops.q (q_asg rfl) ?_
        refine Ops.to rfl ?_
        refine Cd.seq ?_
        refine Cd.seq ?_
        refine Cd.region ?_
        rw [rep_int, ← cntL_nil]
        refine Ops.q (q_mv rfl) ?_
        refine Ops.q (q_len esz_27 rfl) ?_
        refine Ops.q (q_mv rfl) ?_
        refine Ops.to rfl ?_
        refine Cd.block ?_
        refine Cd.lp (σ := Nat) (fun k => k ≤ (outH cs v).length) (fun k => [(5, .int .i64 (v : Int)), (13, .slice (some ⟨wb, 0, none⟩) (v + 1) (v + 1)), (27, .slice (some ⟨cb, 0, none⟩) (v + 1) (v + 1)), (180, .slice oa ((outH cs v).length) oac), (181, .int .i64 ((outH cs v).length : Int)), (182, .int .i64 (k : Int))]) (fun k => [row (some ⟨cb, 0, none⟩) (v + 1) 3 1 (v + 1) ((cntL (v + 1) ((outH cs v).take k)).flatMap eInt), row oa oac 88 2 ((outH cs v).length) ((outH cs v).flatMap eEvt), row (some ⟨wb, 0, none⟩) (v + 1) 3 1 (v + 1) ((rnL cs v (v + 2)).flatMap eInt)]) (fun k => (outH cs v).length - k) 0 (Nat.zero_le _) ⟨rfl, rfl, rfl, rfl, rfl, rfl, trivial⟩ (fun _ hs => (((((((((hs.pull (.there (.there (.there (.there (.there (.there .here))))))).pull (.there (.there .here))).pull (.there (.there .here))).pull (.there (.there (.there .here)))).drop.pull (.there (.there (.there .here)))).drop.pull (.there (.there (.there .here)))).drop.pull (.there (.there (.there .here)))).drop.pull (.there (.there (.there .here)))).drop.pull (.there (.there (.there .here)))).drop) ?_
        intro k hI
        refine Cd.seq ?_
        refine Cd.region ?_
        by_cases hk : (k : Int) < ((outH cs v).length : Int)
        · refine Ops.q (q_cmp rfl rfl (c_lt hk)) ?_
          obtain ⟨⟨yt, yi⟩, hx⟩ : ∃ x, (outH cs v)[k]? = some x := ⟨_, List.getElem?_eq_getElem (by omega)⟩
          obtain ⟨d, tn, hxe, hdN, hd⟩ := hH.outh_mem (List.mem_iff_getElem?.2 ⟨k, hx⟩)
          cases hxe
          have hcl2 := cntL_len (v + 1) ((outH cs v).take k)
          have hol := hH.outh_l
          refine Ops.rowpos (.there .here) (by omega) ?_
          rintro ob rfl
          refine Ops.to rfl ?_
          refine Cd.seq ?_
          refine Cd.cond_t rfl ?_
          refine Cd.skipTo rfl ?_
          refine Cd.seq ?_
          refine Cd.block ?_
          refine Cd.seq ?_
          refine Cd.region ?_
          refine Ops.q (q_ix (k := k) esz_27 rfl rfl (by omega)) ?_
          refine Ops.q (q_ldON [.int .i64 (tn : Int), .int .i64 (d : Int)] isA_88 sz_88 rfl (.there .here) (fm_atN eEvt_len hx)) ?_
          refine Ops.alc [.int .i64 0, .int .i64 0] zc_88 ?_
          intro b23
          refine Ops.stB [.int .i64 (tn : Int), .int .i64 (d : Int)] [.int .i64 (tn : Int), .int .i64 (d : Int)] sz_88 rfl rfl rfl (one rfl) .here rfl rfl ?_
          refine Ops.to rfl ?_
          refine Cd.seq ?_
          refine Cd.seq ?_
          refine Cd.region ?_
          refine Ops.q (q_fa fo_88_1 rfl) ?_
          refine Ops.q (q_ldB isA_3 rfl .here rfl) ?_
          refine Ops.q (q_mv rfl) ?_
          by_cases hbig : (v : Int) < (d : Int)
          · refine Ops.q (q_cmp rfl rfl (c_gt hbig)) ?_
            refine Ops.to rfl ?_
            refine Cd.cond_t rfl ?_
            refine Cd.exitTo rfl ?_
            refine Cd.region ?_
            refine Ops.q (q_ar rfl rfl (a_inc (by omega))) ?_
            refine Ops.q (q_mv rfl) ?_
            refine Ops.rnd (k + 1) rfl (by omega) (by omega) ⟨rfl, rfl, rfl, rfl, rfl, rfl, trivial⟩ (fun _ hs => by have h1 := ((((hs.pull (.there (.there (.there .here)))).pull (.there (.there (.there .here)))).pull (.there (.there (.there .here)))).pull (.there (.there (.there .here)))).drop; (try dsimp only); rw [cntL_skip hx (by dsimp only; omega)]; exact h1) 
          · refine Ops.q (q_cmp rfl rfl (c_ngt (by omega))) ?_
            have hdv : d < v + 1 := by omega
            have hdl := hd hdv
            have hq := hH.q3 hdv
            have hcb : 0 ≤ (cntL (v + 1) ((outH cs v).take k)).getD d 0 ∧ (cntL (v + 1) ((outH cs v).take k)).getD d 0 ≤ 100000 := by rw [cntL_getD hdv]; have h1 := List.length_filter_le (fun e : Evt => decide (e.id = (d : Int))) ((outH cs v).take k); rw [List.length_take] at h1; omega
            refine Ops.to rfl ?_
            refine Cd.cond_f rfl ?_
            refine Cd.skipTo rfl ?_
            refine Cd.seq ?_
            refine Cd.seq ?_
            refine Cd.draw rfl (by kernel_rfl) (.cons .here (.cons (.there (.there .here)) .nil)) ?_
            intro F24 St25 hP26 hF27 hR28
            refine Dr.q (i := 0) hP26 rfl (by kernel_rfl) (q_fa fo_88_1 rfl) ?_
            refine Dr.q (i := 1) hP26 rfl (by kernel_rfl) (q_ldB isA_3 rfl .here rfl) ?_
            refine Dr.q (i := 2) hP26 rfl (by kernel_rfl) (q_cmp rfl rfl (c_nlt (by omega))) ?_
            refine Dr.q (i := 3) hP26 rfl (by kernel_rfl) (q_mv rfl) ?_
            refine Dr.q (i := 4) hP26 rfl (by kernel_rfl) (q_mv rfl) ?_
            refine Dr.q (i := 5) hP26 rfl (by kernel_rfl) (q_fa fo_88_1 rfl) ?_
            refine Dr.q (i := 6) hP26 rfl (by kernel_rfl) (q_ldB isA_3 rfl .here rfl) ?_
            refine Dr.q (i := 7) hP26 rfl (by kernel_rfl) (q_ix (k := d) esz_26 rfl rfl (by omega)) ?_
            refine Dr.q (i := 8) hP26 rfl (by kernel_rfl) (q_ldO isA_3 rfl (.there .here) (fm_at0 eInt_len (hH.rn_fin (by omega)) rfl)) ?_
            refine Dr.q (i := 9) hP26 rfl (by kernel_rfl) (q_cmp rfl rfl (c_neq (by omega))) ?_
            refine Dr.q (i := 10) hP26 rfl (by kernel_rfl) (q_pickF rfl rfl) ?_
            refine Dr.q (i := 11) hP26 rfl (by kernel_rfl) (q_mv rfl) ?_
            refine Dr.q (i := 12) hP26 rfl (by kernel_rfl) (q_fa fo_88_0 rfl) ?_
            refine Dr.q (i := 13) hP26 rfl (by kernel_rfl) (q_ldB isA_3 rfl .here rfl) ?_
            refine Dr.q (i := 14) hP26 rfl (by kernel_rfl) (q_mv rfl) ?_
            refine Dr.q (i := 15) hP26 rfl (by kernel_rfl) (q_fa fo_88_1 rfl) ?_
            refine Dr.q (i := 16) hP26 rfl (by kernel_rfl) (q_ldB isA_3 rfl .here rfl) ?_
            refine Dr.q (i := 17) hP26 rfl (by kernel_rfl) (q_ix (k := d) esz_26 rfl rfl (by omega)) ?_
            refine Dr.q (i := 18) hP26 rfl (by kernel_rfl) (q_ldO isA_3 rfl (.there .here) (fm_at0 eInt_len (hH.rn_fin (by omega)) rfl)) ?_
            refine Dr.q (i := 19) hP26 rfl (by kernel_rfl) (q_ar (v := 2 * lev cs v d) rfl rfl (a_mul (by omega))) ?_
            refine Dr.q (i := 20) hP26 rfl (by kernel_rfl) (q_cmp rfl rfl (c_nne hdl.2)) ?_
            refine Dr.q (i := 21) hP26 rfl (by kernel_rfl) (q_pickF rfl rfl) ?_
            refine Dr.tail 22 (by kernel_rfl) ?_
            refine Ops.sat ?_ (fun _ hs => hR28 .here hs)
            refine Ops.to rfl ?_
            refine Cd.cond_f rfl ?_
            refine Cd.skipTo rfl ?_
            refine Cd.region ?_
            refine Ops.q (q_mv rfl) ?_
            refine Ops.q (q_fa fo_88_1 rfl) ?_
            refine Ops.q (q_ldB isA_3 rfl .here rfl) ?_
            refine Ops.q (q_ix (k := d) esz_26 rfl rfl (by omega)) ?_
            refine Ops.q (q_ldO isA_3 rfl (.there (.there .here)) (fm_at0 eInt_len (getD_some (by omega)) rfl)) ?_
            refine Ops.q (q_ar rfl rfl (a_add (by omega))) ?_
            refine Ops.q (q_ix (k := d) esz_26 rfl rfl (by omega)) ?_
            refine Ops.stO [.int .i64 (((cntL (v + 1) ((outH cs v).take k)).getD d 0) + 1)] (((cntL (v + 1) ((outH cs v).take k)).set d (((cntL (v + 1) ((outH cs v).take k)).getD d 0) + 1)).flatMap eInt) sz_3 rfl rfl rfl (one rfl) (.there (.there .here)) (by rw [fm_length eInt_len]; simp only [List.length_cons, List.length_nil]; omega) (fm_set eInt_len (cntL (v + 1) ((outH cs v).take k)) d (((cntL (v + 1) ((outH cs v).take k)).getD d 0) + 1) (by omega)) ?_
            refine Ops.to rfl ?_
            refine Cd.region ?_
            refine Ops.q (q_ar rfl rfl (a_inc (by omega))) ?_
            refine Ops.q (q_mv rfl) ?_
            refine Ops.rnd (k + 1) rfl (by omega) (by omega) ⟨rfl, rfl, rfl, rfl, rfl, rfl, trivial⟩ (fun _ hs => by have h1 := ((((hs.pull (.there .here)).pull (.there (.there (.there .here)))).pull (.there (.there (.there .here)))).pull (.there (.there (.there .here)))).drop; (try dsimp only); rw [cntL_step hx rfl]; exact h1) 
        · refine Ops.q (q_cmp rfl rfl (c_nlt (by omega))) ?_
          rw [show k = (outH cs v).length by omega, List.take_length]
          refine Ops.to rfl ?_
          refine Cd.seq ?_
          refine Cd.cond_f rfl ?_
          refine Cd.exitTo rfl ?_
          refine Cd.seq ?_
          refine Cd.seq ?_
          refine Cd.region ?_
          refine Ops.q (q_mv rfl) ?_
          refine Ops.q (q_len esz_26 rfl) ?_
          refine Ops.q (q_mv rfl) ?_
          refine Ops.to rfl ?_
          refine Cd.block ?_
          refine Cd.lp (σ := Nat) (fun i => i ≤ v + 1) (fun i => [(5, .int .i64 (v : Int)), (13, .slice (some ⟨wb, 0, none⟩) (v + 1) (v + 1)), (27, .slice (some ⟨cb, 0, none⟩) (v + 1) (v + 1)), (220, .slice (some ⟨wb, 0, none⟩) (v + 1) (v + 1)), (221, .int .i64 (v + 1 : Int)), (222, .int .i64 (i : Int))]) (fun i => [row (some ⟨cb, 0, none⟩) (v + 1) 3 1 (v + 1) ((cntL (v + 1) (outH cs v)).flatMap eInt), row (some ⟨wb, 0, none⟩) (v + 1) 3 1 (v + 1) ((rnL cs v (v + 2)).flatMap eInt)]) (fun i => v + 1 - i) 0 (Nat.zero_le _) ⟨rfl, rfl, rfl, rfl, rfl, rfl, trivial⟩ (fun _ hs => (((hs.pull (.there (.there .here))).pull (.there .here)).pull (.there (.there .here))).drop) ?_
          intro i hI
          refine Cd.seq ?_
          refine Cd.region ?_
          by_cases hi : (i : Int) < (v + 1 : Int)
          · refine Ops.q (q_cmp rfl rfl (c_lt hi)) ?_
            have hcl3 := cntL_len (v + 1) (outH cs v)
            refine Ops.to rfl ?_
            refine Cd.seq ?_
            refine Cd.cond_t rfl ?_
            refine Cd.skipTo rfl ?_
            refine Cd.seq ?_
            refine Cd.block ?_
            refine Cd.seq ?_
            refine Cd.region ?_
            refine Ops.q (q_mv rfl) ?_
            refine Ops.q (q_ix (k := i) esz_26 rfl rfl (by omega)) ?_
            refine Ops.q (q_ldO isA_3 rfl (.there .here) (fm_at0 eInt_len (hH.rn_fin (by omega)) rfl)) ?_
            refine Ops.q (q_asg rfl) ?_
            refine Ops.q (q_asg rfl) ?_
            refine Ops.to rfl ?_
            refine Cd.seq ?_
            refine Cd.region ?_
            refine Ops.q (q_mv rfl) ?_
            refine Ops.q (q_mv rfl) ?_
            refine Ops.q (q_ix (k := i) esz_26 rfl rfl (by omega)) ?_
            refine Ops.q (q_ldO isA_3 rfl .here (fm_at0 eInt_len (cnt2_at hH (by omega)) rfl)) ?_
            refine Ops.q (q_mv rfl) ?_
            refine Ops.q (q_min rfl rfl) ?_
            refine Ops.q (q_cmp rfl rfl (c_nne (cnt2_eq (hH.q3 (by omega)).1))) ?_
            refine Ops.to rfl ?_
            refine Cd.cond_f rfl ?_
            refine Cd.skipTo rfl ?_
            refine Cd.region ?_
            refine Ops.q (q_ar rfl rfl (a_inc (by omega))) ?_
            refine Ops.q (q_mv rfl) ?_
            refine Ops.rnd (i + 1) rfl (by omega) (by omega) ⟨rfl, rfl, rfl, rfl, rfl, rfl, trivial⟩ (fun _ hs => ((hs.pull (.there .here)).pull (.there .here))) 
          · refine Ops.q (q_cmp rfl rfl (c_nlt (by omega))) ?_
            refine Ops.to rfl ?_
            refine Cd.seq ?_
            refine Cd.cond_f rfl ?_
            refine Cd.exitTo rfl ?_
            refine Cd.seq ?_
            refine Cd.region ?_
            refine Ops.cp en_13 rfl (fun w hs => works_c w) ?_
            refine Ops.q (q_asg rfl) ?_
            refine Ops.to rfl ?_
            refine Cd.rt (fn := Try.f9) [.bool true] (by with_reducible repeat (first | exact rq_here | apply rq_then | apply rq_block)) rfl ⟨rfl, trivial⟩ ?_
            intro w' hs'
            exact ⟨rfl, hs'.none⟩
end Go.Proofs.Ytilcdghliigngaa
