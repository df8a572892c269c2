/- Part of a claim: the program logic, the contracts of the functions, their models. No condition. -/
import Derived.WalkKit
import Derived.OwnWalkIn
import Derived.TacticsInMore
import Derived.OrdersIn
import Derived.RangeFuncLeaves
import Derived.RangeFuncNested
import Derived.Maps.AppendAt
import Derived.Shelf.Abstract
import Derived.Test.YtilcdghliigngaaProg
import Derived.MapKept
import Derived.Laws.StructEq
import Derived.Laws.OwnMore
import Derived.RangeFuncRecord
import Derived.Lib.SliceRun
import Derived.Lib.AppendZeros
import Derived.Lib.AppendZerosOnto
import Derived.Lib.Overlaps
import Derived.Laws.Externs
import Derived.Test.YtilcdghliigngaaPj4
namespace Go.Proofs.Ytilcdghliigngaa
open Go.RowKit Go.Proofs.YtilcdghliigngaaGl Go.Proofs.YtilcdghliigngaaPm
set_option linter.unusedVariables false
set_option linter.unusedSimpArgs false
set_option linter.unusedSectionVars false
section
variable {nx : List (List Int)} {st : Int} {acc : List Bool} {ws : List Int} {k : Nat}
def autV (nx : List (List Int)) (st : Int) (acc : List Bool) (ws : List Int) (k : Nat) : Nat → Nat → Int
  | 0, _ => 0
  | t + 1, d => if hN nx.length k d ≤ inX (autSs nx st acc k) (autF nx st acc ws k) (idlA ws k) t d then 0 else inX (autSs nx st acc k) (autF nx st acc ws k) (idlA ws k) t d
def blkA (nx : List (List Int)) (st : Int) (acc : List Bool) (ws : List Int) (k i : Nat) : List Evt :=
  [⟨((3 * i + 1 : Nat) : Int), wantA nx st ws i⟩] ++ ((if i < ws.length then [⟨((3 * i + 2 : Nat) : Int), ((nx.length + (k * (wantA nx st ws i).toNat + (ws.getD i 0).toNat) : Nat) : Int)⟩] else []) ++ (if acc.getD (wantA nx st ws i).toNat false = true then [⟨((3 * i + 2 : Nat) : Int), ((nx.length + nx.length * k : Nat) : Int)⟩] else []))
def outA (nx : List (List Int)) (st : Int) (acc : List Bool) (ws : List Int) (k : Nat) : List Evt := (List.range (ws.length + 1)).flatMap (blkA nx st acc ws k)
def evA (ws : List Int) (k : Nat) : List Evt := insI (evsW ws ws.length) (min 1 ws.length) ⟨0, (k : Int)⟩
namespace AutOK
variable (h : AutOK nx st acc ws k)
include h
theorem fires {t d : Nat} (hd : d < nx.length + nx.length * k + 1) : autF nx st acc ws k t d = decide (hN nx.length k d ≤ inX (autSs nx st acc k) (autF nx st acc ws k) (idlA ws k) t d) := by
  have key : ∀ {b : Bool} {p : Prop} [Decidable p], (p ↔ b = true) → b = decide p := fun {b p} _ e => by
    by_cases c : p
    · rw [e.1 c, decide_eq_true c]
    · rw [decide_eq_false c]
      cases b with
      | false => rfl
      | true => exact absurd (e.2 rfl) c
  refine key ?_
  unfold hN
  have hk := h.hk
  by_cases c1 : d < nx.length
  · rw [if_neg (by omega)]; exact h.at_state c1
  · by_cases c2 : d < nx.length + nx.length * k
    · rw [if_pos ⟨by omega, c2⟩]
      have hc : (d - nx.length) % k < k := Nat.mod_lt _ (by omega)
      have hq : (d - nx.length) / k < nx.length := (Nat.div_lt_iff_lt_mul (by omega)).2 (by omega)
      have e : d = nx.length + k * ((d - nx.length) / k) + (d - nx.length) % k := by
        have := Nat.div_add_mod (d - nx.length) k; omega
      have := h.at_trans2 (t := t) hq hc
      rw [← e] at this; exact this
    · have e : d = nx.length + nx.length * k := by omega
      rw [if_neg (by omega), e]; exact h.at_acc
theorem idl_ok (t : Nat) : (idlA ws k t).Pairwise (· < ·) ∧ ∀ i ∈ idlA ws k t, wi i 0 (((k + 1 : Nat) : Int) - 1) := by
  have hv := h.wsv (t / 3)
  unfold idlA wi
  by_cases c1 : t % 3 = 0 ∧ t / 3 < ws.length <;> by_cases c2 : t = 0
  · rw [if_pos c1, if_pos c2]
    refine ⟨?_, fun i hi => ?_⟩
    · simp only [List.cons_append, List.nil_append, List.pairwise_cons, List.mem_singleton, List.not_mem_nil, false_implies, implies_true, List.Pairwise.nil, and_true]
      intro a ha; omega
    · simp only [List.cons_append, List.nil_append, List.mem_cons, List.not_mem_nil, or_false] at hi; omega
  · rw [if_pos c1, if_neg c2]
    exact ⟨by simp, fun i hi => by simp only [List.append_nil, List.mem_singleton] at hi; omega⟩
  · rw [if_neg c1, if_pos c2]
    exact ⟨by simp, fun i hi => by simp only [List.nil_append, List.mem_singleton] at hi; omega⟩
  · rw [if_neg c1, if_neg c2]
    exact ⟨by simp, fun i hi => by simp at hi⟩
omit h in
theorem ev_blocks : ∀ m, m + 1 ≤ ws.length → evF (idlA ws k) 0 (3 * (m + 1)) = evW ws 0 :: (⟨0, (k : Int)⟩ :: (List.range m).map (fun j => evW ws (j + 1)))
  | 0, hm => by
    simp only [evF, idlA, evW]
    rw [if_pos (by constructor <;> first | trivial | omega)]
    simp
  | m + 1, hm => by
    have e : 3 * (m + 1 + 1) = 3 * (m + 1) + 1 + 1 + 1 := by omega
    rw [e, evF_app, evF_app, evF_app, ev_blocks m (by omega), List.range_succ, List.map_append]
    have e1 : idlA ws k (0 + 3 * (m + 1)) = [ws.getD (m + 1) 0] := by
      unfold idlA
      have : (0 + 3 * (m + 1)) / 3 = m + 1 := by omega
      rw [this, if_pos ⟨by omega, by omega⟩, if_neg (by omega)]; rfl
    have e2 : idlA ws k (0 + (3 * (m + 1) + 1)) = [] := by
      unfold idlA
      rw [if_neg (fun c => by omega), if_neg (by omega)]; rfl
    have e3 : idlA ws k (0 + (3 * (m + 1) + 1 + 1)) = [] := by
      unfold idlA
      rw [if_neg (fun c => by omega), if_neg (by omega)]; rfl
    rw [e1, e2, e3]
    simp [evW]
omit h in
theorem evF_eq : evF (idlA ws k) 0 (3 * ws.length + 20) = evA ws k := by
  unfold evA
  rcases Nat.eq_zero_or_pos ws.length with h0 | h0
  · rw [h0, show 3 * 0 + 20 = 1 + 19 from rfl, evF_more (T := 1) (fun t ht => by
      unfold idlA
      rw [if_neg (by omega), if_neg (by omega)]; rfl)]
    simp [evF, idlA, h0, insI, evsW]
  · obtain ⟨m, hm⟩ : ∃ m, ws.length = m + 1 := ⟨ws.length - 1, by omega⟩
    rw [evF_more (T := 3 * ws.length) (fun t ht => by
      unfold idlA
      rw [if_neg (by omega), if_neg (by omega)]; rfl)]
    rw [hm, ev_blocks m (by omega), show min 1 (m + 1) = 1 by omega]
    unfold insI evsW
    rw [List.range_succ_eq_map]
    simp [List.map_map, Function.comp_def]
theorem runO (hs8 : nx.length ≤ 8) (hk4 : k ≤ 4) (hl : ws.length ≤ 40) : runN ⟨(autN nx st acc k).ns, (autN nx st acc k).inp, (autN nx st acc k).ss⟩ (evA ws k) (3 * ws.length + 20) = some (outF (autF nx st acc ws k) (nx.length + nx.length * k + 1) (3 * ws.length + 20)) := by
  have hln : (mNs nx.length k (nx.length + nx.length * k + 1)).length = nx.length + nx.length * k + 1 := mNs_len _ _ _
  have hsk : nx.length * k ≤ 8 * 4 := Nat.mul_le_mul hs8 hk4
  have hX : ∀ t d, 0 ≤ inX (autSs nx st acc k) (autF nx st acc ws k) (idlA ws k) t d ∧ inX (autSs nx st acc k) (autF nx st acc ws k) (idlA ws k) t d ≤ 1600 := fun t d => by
    have h1 := inX_one (ss := autSs nx st acc k) (F := autF nx st acc ws k) (idl := idlA ws k) (k := t) (d := d) (fun s hs _ => h.wt1 hs)
    have h2 := h.ss_len
    exact ⟨h1.1, by have := h1.2.1; omega⟩
  have hT : (3 * ws.length + 20) * (nx.length + nx.length * k + 1) ≤ 140 * 41 := Nat.mul_le_mul (by omega) (by omega)
  have hr := sim_run (ns := mNs nx.length k (nx.length + nx.length * k + 1)) (ip := ((k + 1 : Nat) : Int)) (ss := autSs nx st acc k) (F := autF nx st acc ws k) (idl := idlA ws k) (V := autV nx st acc ws k) (T := 3 * ws.length + 20)
    ⟨fun p hp => by
      obtain ⟨j, _, rfl⟩ := List.mem_map.1 hp
      exact ⟨by unfold hN; split <;> decide, rfl⟩,
     fun s hs => by
      rw [hln]
      have h4 := h.st; have h5 := h.acc
      rcases ss_mem.1 hs with rfl | ⟨q, c, hq, hc, rfl | rfl | rfl⟩ | ⟨q, hq, hc, rfl⟩
      · dsimp only; omega
      · have := kq_lt hq (Nat.lt_of_lt_of_le hc (h.rlen q).1); dsimp only; omega
      · have := kq_lt hq (Nat.lt_of_lt_of_le hc (h.rlen q).1); dsimp only; omega
      · have := kq_lt hq (Nat.lt_of_lt_of_le hc (h.rlen q).1); have := h.rval hq (Nat.lt_of_lt_of_le hc (h.rlen q).1); dsimp only; omega
      · dsimp only; omega,
     fun t => ⟨(h.idl_ok t).1.imp (fun h => by omega), fun i hi => by have := (h.idl_ok t).2 i hi; unfold wi at this; omega⟩⟩
    (fun d => rfl)
    (fun t d _ hd => by have := hX t d; omega)
    (fun t d p _ hp => by
      obtain ⟨hd, e⟩ := List.getElem?_eq_some_iff.1 hp
      rw [hln] at hd
      have : p = gateP (hN nx.length k d) := by rw [← e]; simp [mNs]
      subst this
      have := hX t d
      rw [stepV_gate (by unfold hN; split <;> omega) (by omega), ← h.fires hd]; rfl)
    (by rw [hln]; omega)
  rw [hln, evF_eq] at hr
  exact hr
theorem out_none {t : Nat} (ht : t % 3 = 0 ∨ ws.length < t / 3) : (List.range (nx.length + nx.length * k + 1)).filter (autF nx st acc ws k t) = [] := filt_none (fun d _ hF => by
  unfold autF at hF
  split at hF
  · have := (decide_eq_true_eq.mp hF); omega
  · split at hF
    · have := (decide_eq_true_eq.mp hF); omega
    · have := (decide_eq_true_eq.mp hF); omega)
theorem out_block {i : Nat} (hi : i ≤ ws.length) : ((List.range (nx.length + nx.length * k + 1)).filter (autF nx st acc ws k (3 * i))).map (fun d : Nat => (⟨((3 * i : Nat) : Int), (d : Int)⟩ : Evt)) ++ (((List.range (nx.length + nx.length * k + 1)).filter (autF nx st acc ws k (3 * i + 1))).map (fun d : Nat => (⟨((3 * i + 1 : Nat) : Int), (d : Int)⟩ : Evt)) ++ ((List.range (nx.length + nx.length * k + 1)).filter (autF nx st acc ws k (3 * i + 2))).map (fun d : Nat => (⟨((3 * i + 2 : Nat) : Int), (d : Int)⟩ : Evt))) = blkA nx st acc ws k i := by
  have hw := h.want i; have hv := h.wsv i
  rw [h.out_none (t := 3 * i) (.inl (by omega)), filt_one (a := (wantA nx st ws i).toNat) (by omega) (fun d hd => ?_), List.range_succ, List.filter_append]
  · unfold blkA
    have hlt := kq_lt (s := nx.length) (q := (wantA nx st ws i).toNat) (k := k) (c := (ws.getD i 0).toNat) (by omega) (by omega)
    have e1 : (List.range (nx.length + nx.length * k)).filter (autF nx st acc ws k (3 * i + 2)) = if i < ws.length then [nx.length + (k * (wantA nx st ws i).toNat + (ws.getD i 0).toNat)] else [] := by
      have e5 : (3 * i + 2) / 3 = i := by omega
      by_cases c : i < ws.length
      · rw [if_pos c]
        refine filt_one (by omega) (fun d hd => ?_)
        unfold autF
        rw [e5]
        by_cases c1 : d < nx.length
        · rw [if_pos c1, decide_eq_true_eq]; omega
        · rw [if_neg c1, if_pos hd, decide_eq_true_eq]; omega
      · rw [if_neg c]
        refine filt_none (fun d hd => ?_)
        unfold autF
        rw [e5]
        by_cases c1 : d < nx.length
        · rw [if_pos c1, decide_eq_true_eq]; omega
        · rw [if_neg c1, if_pos hd, decide_eq_true_eq]; omega
    have e2 : autF nx st acc ws k (3 * i + 2) (nx.length + nx.length * k) = acc.getD (wantA nx st ws i).toNat false := by
      unfold autF
      rw [if_neg (by omega), if_neg (by omega), show (3 * i + 2) / 3 = i by omega]
      simp [hi]
    rw [e1, List.map_append, List.map_nil, List.nil_append]
    congr 1
    · simp; omega
    · congr 1
      · split <;> rfl
      · by_cases c : acc.getD (wantA nx st ws i).toNat false = true
        · rw [if_pos c]; simp only [List.filter_cons, e2, c, if_true, List.filter_nil, List.map_cons, List.map_nil]
        · have c' : acc.getD (wantA nx st ws i).toNat false = false := by simpa using c
          rw [if_neg c, List.filter_cons, e2, c', if_neg (by decide)]; rfl
  · unfold autF
    rw [show (3 * i + 1) / 3 = i by omega]
    by_cases c1 : d < nx.length
    · rw [if_pos c1, decide_eq_true_eq]; omega
    · rw [if_neg c1]
      split <;> (rw [decide_eq_true_eq]; omega)
theorem out_blocks : ∀ m, m ≤ ws.length + 1 → outF (autF nx st acc ws k) (nx.length + nx.length * k + 1) (3 * m) = (List.range m).flatMap (blkA nx st acc ws k)
  | 0, _ => rfl
  | m + 1, hm => by
    rw [show 3 * (m + 1) = 3 * m + 1 + 1 + 1 by omega, outF_next, outF_next, outF_next, out_blocks m (by omega), List.range_succ (n := m), List.flatMap_append, List.append_assoc, List.append_assoc]
    congr 1
    rw [h.out_block (i := m) (by omega)]; simp
theorem out_more : ∀ f, outF (autF nx st acc ws k) (nx.length + nx.length * k + 1) (3 * (ws.length + 1) + f) = outA nx st acc ws k
  | 0 => h.out_blocks _ (Nat.le_refl _)
  | f + 1 => by
    rw [← Nat.add_assoc, outF_next, out_more f, h.out_none (.inr (by omega))]; simp
theorem run (hs8 : nx.length ≤ 8) (hk4 : k ≤ 4) (hl : ws.length ≤ 40) : runN ⟨(autN nx st acc k).ns, (autN nx st acc k).inp, (autN nx st acc k).ss⟩ (evA ws k) (3 * ws.length + 20) = some (outA nx st acc ws k) := by
  rw [h.runO hs8 hk4 hl, show 3 * ws.length + 20 = 3 * (ws.length + 1) + 17 by omega, h.out_more]
end AutOK
end
end Go.Proofs.Ytilcdghliigngaa
namespace Go.Proofs.Ytilcdghliigngaa
open Go.RowKit Go.Proofs.YtilcdghliigngaaGl Go.Proofs.YtilcdghliigngaaPm
set_option linter.unusedVariables false
set_option linter.unusedSimpArgs false
set_option linter.unusedSectionVars false
section
variable {nx : List (List Int)} {st : Int} {acc : List Bool} {ws : List Int} {k : Nat}
namespace AutOK
variable (h : AutOK nx st acc ws k)
include h
theorem out_len : (outA nx st acc ws k).length ≤ 3 * (ws.length + 1) := by
  unfold outA
  have : ∀ m : Nat, ((List.range m).flatMap (blkA nx st acc ws k)).length ≤ 3 * m := fun m => by
    induction m with
    | zero => simp
    | succ m ih =>
      rw [List.range_succ, List.flatMap_append, List.length_append]
      have : ([m].flatMap (blkA nx st acc ws k)).length ≤ 3 := by
        rw [List.flatMap_cons, List.flatMap_nil, List.append_nil]
        unfold blkA; split <;> split <;> simp
      omega
  exact this _
end AutOK
end
end Go.Proofs.Ytilcdghliigngaa
namespace Go.Proofs.Ytilcdghliigngaa
open Go.RowKit Go.Proofs.YtilcdghliigngaaGl Go.Proofs.YtilcdghliigngaaPm
set_option linter.unusedVariables false
set_option linter.unusedSimpArgs false
end Go.Proofs.Ytilcdghliigngaa
namespace Go.Proofs.Ytilcdghliigngaa
open Go.RowKit Go.Proofs.YtilcdghliigngaaGl Go.Proofs.YtilcdghliigngaaPm
set_option linter.unusedVariables false
set_option linter.unusedSimpArgs false
end Go.Proofs.Ytilcdghliigngaa
namespace Go.Proofs.Ytilcdghliigngaa
open Go.Proofs.YtilcdghliigngaaPm
set_option linter.unusedVariables false
set_option linter.unusedSimpArgs false
set_option linter.unusedSectionVars false
inductive WayE (g : List Edg) (s : Nat) : Nat → Nat → Prop
  | start : WayE g s 0 s
  | step {t u : Nat} {e : Edg} : WayE g s t u → e ∈ g → e.src = (u : Int) → WayE g s (t + e.len.toNat) e.dst.toNat
theorem nat_least {P : Nat → Prop} (h : ∃ n, P n) : ∃ n, P n ∧ ∀ m, P m → n ≤ m := by
  obtain ⟨n, hn⟩ := h
  induction n using Nat.strongRecOn with
  | ind n ih =>
    by_cases c : ∃ m, m < n ∧ P m
    · obtain ⟨m, h1, h2⟩ := c; exact ih m h1 h2
    · exact ⟨n, hn, fun m hm => Nat.le_of_not_lt fun hlt => c ⟨m, hlt, hm⟩⟩
open Classical in
noncomputable def dst (g : List Edg) (s d : Nat) : Int := if h : ∃ t, WayE g s t d then (((nat_least h).choose : Nat) : Int) else -1
theorem dst_spec (g : List Edg) (s d : Nat) : (dst g s d = -1 ∧ ∀ t, ¬ WayE g s t d) ∨ ∃ t : Nat, dst g s d = (t : Int) ∧ WayE g s t d ∧ ∀ m, WayE g s m d → t ≤ m := by
  unfold dst
  by_cases h : ∃ t, WayE g s t d
  · right
    rw [dif_pos h]
    exact ⟨_, rfl, (nat_least h).choose_spec⟩
  · left
    rw [dif_neg h]
    exact ⟨rfl, fun t ht => h ⟨t, ht⟩⟩
structure GOK (g : List Edg) (s v : Nat) : Prop where
  hv : 1 ≤ v ∧ v ≤ 40
  hs : s < v
  hl : g.length ≤ 120
  he : ∀ e ∈ g, 0 ≤ e.src ∧ e.src < (v : Int) ∧ 0 ≤ e.dst ∧ e.dst < (v : Int) ∧ 1 ≤ e.len ∧ e.len ≤ 16
section
variable {g : List Edg} {s v : Nat}
theorem dst_of {t d : Nat} (h : WayE g s t d) : 0 ≤ dst g s d ∧ dst g s d ≤ (t : Int) := by
  rcases dst_spec g s d with ⟨_, h2⟩ | ⟨t', h1, h2, h3⟩
  · exact absurd h (h2 t)
  · have := h3 t h; omega
theorem dst_reach {d : Nat} (h : 0 ≤ dst g s d) : ∃ t : Nat, dst g s d = (t : Int) ∧ WayE g s t d := by
  rcases dst_spec g s d with ⟨h1, h2⟩ | ⟨t', h1, h2, h3⟩
  · omega
  · exact ⟨t', h1, h2⟩
namespace GOK
variable (h : GOK g s v)
include h
theorem p1 {e : Edg} (he : e ∈ g) (h0 : 0 ≤ dst g s e.src.toNat) : 0 ≤ dst g s e.dst.toNat ∧ dst g s e.dst.toNat ≤ dst g s e.src.toNat + e.len := by
  obtain ⟨t, h1, h2⟩ := dst_reach h0
  have hb := h.he e he
  have := dst_of (WayE.step h2 he (by omega)); omega
theorem p2 {d : Nat} (h0 : 0 ≤ dst g s d) : (d = s ∧ dst g s d = 0) ∨ ∃ e ∈ g, e.dst = (d : Int) ∧ 0 ≤ dst g s e.src.toNat ∧ dst g s e.src.toNat + e.len = dst g s d := by
  obtain ⟨t, h1, h2⟩ := dst_reach h0
  cases h2 with
  | start => exact .inl ⟨rfl, by omega⟩
  | step hr he hs =>
    rename_i t' u e
    right
    have hb := h.he e he
    have h3 := dst_of hr
    have hu : e.src.toNat = u := by omega
    refine ⟨e, he, by omega, by rw [hu]; exact h3.1, ?_⟩
    have := (h.p1 he (by rw [hu]; exact h3.1)).2
    rw [hu] at this ⊢
    omega
theorem lt {d : Nat} (h0 : 0 ≤ dst g s d) : d < v := by
  rcases h.p2 h0 with ⟨rfl, _⟩ | ⟨e, he, h1, _⟩
  · exact h.hs
  · have := h.he e he; omega
theorem pos {d : Nat} (hd : d ≠ s) (h0 : 0 ≤ dst g s d) : 1 ≤ dst g s d := by
  rcases h.p2 h0 with ⟨h1, _⟩ | ⟨e, he, h1, h2, h3⟩
  · exact absurd h1 hd
  · have := h.he e he; omega
end GOK
namespace GOK
variable (h : GOK g s v)
include h
end GOK
namespace GOK
variable (h : GOK g s v)
include h
end GOK
end
end Go.Proofs.Ytilcdghliigngaa
namespace Go.Proofs.Ytilcdghliigngaa
open Go.RowKit Go.Proofs.YtilcdghliigngaaGl Go.Proofs.YtilcdghliigngaaPm
set_option linter.unusedVariables false
set_option linter.unusedSimpArgs false
set_option linter.unusedSectionVars false
section
variable {g : List Edg} {s v : Nat}
namespace GOK
variable (h : GOK g s v)
include h
end GOK
end
end Go.Proofs.Ytilcdghliigngaa
namespace Go.Proofs.Ytilcdghliigngaa
open Go.RowKit Go.Proofs.YtilcdghliigngaaGl Go.Proofs.YtilcdghliigngaaPm
set_option linter.unusedVariables false
set_option linter.unusedSimpArgs false
set_option linter.unusedSectionVars false
section
variable {g : List Edg} {s v : Nat}
theorem getD_some {xs : List Int} {d : Nat} (h : d < xs.length) : xs[d]? = some (xs.getD d 0) := by
  simp [List.getD, h]
namespace GOK
variable (h : GOK g s v)
include h
end GOK
end
abbrev uW (x : Int) : Int := IntKind.u64.wrap x
theorem uW_0 (x : Int) : 0 ≤ uW x := by unfold uW; rw [IntKind.wrap_u64]; omega
end Go.Proofs.Ytilcdghliigngaa
namespace Go.Proofs.Ytilcdghliigngaa
open Go.RowKit Go.Proofs.YtilcdghliigngaaGl Go.Proofs.YtilcdghliigngaaPm
set_option linter.unusedVariables false
set_option linter.unusedSimpArgs false
theorem a_remU {i j : Int} (hi : 0 ≤ i) (hj : 0 < j) : arV .rem .u64 i j = some (i % j) := by simp only [arV, if_neg (show j ≠ 0 by omega), Int.tmod_eq_emod_of_nonneg hi]
def fillL (v j : Nat) : List Int := List.replicate j (-1) ++ List.replicate (v - j) 0
end Go.Proofs.Ytilcdghliigngaa
namespace Go.Proofs.Ytilcdghliigngaa
open Go.RowKit Go.Proofs.YtilcdghliigngaaGl Go.Proofs.YtilcdghliigngaaPm
set_option linter.unusedVariables false
set_option linter.unusedSimpArgs false
theorem sumI_swap {α β : Type} (f : α → β → Int) : ∀ (xs : List α) (ys : List β), sumI (fun y => sumI (fun x => f x y) xs) ys = sumI (fun x => sumI (fun y => f x y) ys) xs
  | xs, [] => by simp only [sumI]; exact (sumI_zero (fun _ _ => rfl)).symm
  | xs, y :: ys => by simp only [sumI, sumI_swap f xs ys]; rw [← sumI_add]
theorem sumI_pick {α : Type} [DecidableEq α] {a : α} {c : Int} : ∀ {ys : List α}, ys.Nodup → sumI (fun y => if y = a then c else 0) ys = if a ∈ ys then c else 0
  | [], _ => by simp [sumI]
  | y :: ys, h => by
    obtain ⟨h1, h2⟩ := List.nodup_cons.1 h
    rw [sumI, sumI_pick h2]
    by_cases e : y = a
    · subst e; rw [if_pos rfl, if_neg h1, if_pos (.head _)]; omega
    · rw [if_neg e]
      by_cases e2 : a ∈ ys
      · rw [if_pos e2, if_pos (.tail _ e2)]; omega
      · rw [if_neg e2, if_neg (fun h => by rcases List.mem_cons.1 h with h | h; exact e h.symm; exact e2 h)]; rfl
theorem sumI_leC {α : Type} {f : α → Int} {c : Int} : ∀ {xs : List α}, (∀ x ∈ xs, f x ≤ c) → sumI f xs ≤ xs.length * c
  | [], _ => by simp [sumI]
  | x :: xs, h => by
    have h1 := h x (.head _)
    have h2 := sumI_leC (fun y hy => h y (.tail _ hy) : ∀ y ∈ xs, f y ≤ c)
    simp only [sumI, List.length_cons]
    have : ((xs.length + 1 : Nat) : Int) * c = xs.length * c + c := by rw [Int.natCast_add, Int.add_mul]; simp
    omega
theorem nodup_sub {α : Type} [DecidableEq α] : ∀ {xs ys : List α}, xs.Nodup → (∀ x ∈ xs, x ∈ ys) → xs.length ≤ ys.length
  | [], _, _, _ => by simp
  | x :: xs, ys, h, hs => by
    obtain ⟨h1, h2⟩ := List.nodup_cons.1 h
    have hx := hs x (.head _)
    have := nodup_sub (xs := xs) (ys := ys.erase x) h2 (fun y hy => (List.mem_erase_of_ne (fun e : y = x => h1 (by rw [← e]; exact hy))).2 (hs y (.tail _ hy)))
    have hl := List.length_erase_of_mem hx
    have hp : 0 < ys.length := List.length_pos_of_mem hx
    simp only [List.length_cons]; omega
def nE (e : Evt) : Evt := ⟨uW e.tick % 40, uW e.id % 8⟩
structure EOK (E : List Evt) : Prop where
  b : ∀ y ∈ E, 0 ≤ y.tick ∧ y.tick < 40 ∧ 0 ≤ y.id ∧ y.id < 8
  l : E.length ≤ 30
def idC (E : List Evt) (t j : Nat) : List Int := ((List.range j).filter (fun i : Nat => decide ((⟨(t : Int), (i : Int)⟩ : Evt) ∈ E))).map (fun i : Nat => (i : Int))
def idlC (E : List Evt) (t : Nat) : List Int := idC E t 8
def evC (E : List Evt) : List Evt := evF (idlC E) 0 40
theorem idC_mem {E : List Evt} {t j : Nat} {x : Int} : x ∈ idC E t j ↔ 0 ≤ x ∧ x < (j : Int) ∧ (⟨(t : Int), x⟩ : Evt) ∈ E := by
  unfold idC
  constructor
  · intro h
    obtain ⟨i, hi, rfl⟩ := List.mem_map.1 h
    obtain ⟨h1, h2⟩ := List.mem_filter.1 hi
    have := List.mem_range.1 h1
    exact ⟨by omega, by omega, by simpa using h2⟩
  · rintro ⟨h1, h2, h3⟩
    refine List.mem_map.2 ⟨x.toNat, List.mem_filter.2 ⟨List.mem_range.2 (by omega), ?_⟩, by simp; omega⟩
    rw [decide_eq_true_eq, show ((x.toNat : Nat) : Int) = x by omega]; exact h3
theorem idlC_mem {E : List Evt} (h : EOK E) {t : Nat} {x : Int} : x ∈ idlC E t ↔ (⟨(t : Int), x⟩ : Evt) ∈ E := by
  unfold idlC
  rw [idC_mem]
  constructor
  · exact fun h => h.2.2
  · intro hm
    have := h.b _ hm
    exact ⟨this.2.2.1, this.2.2.2, hm⟩
theorem idlC_out {E : List Evt} (h : EOK E) {t : Nat} (ht : 40 ≤ t) : idlC E t = [] := by
  cases hc : idlC E t with
  | nil => rfl
  | cons x r =>
    have hm : x ∈ idlC E t := by rw [hc]; exact .head _
    have := h.b _ ((idlC_mem h).1 hm)
    dsimp only at this
    omega
theorem rangeI_pw (k : Nat) (f : Nat → Bool) : (((List.range k).filter f).map (fun i : Nat => (i : Int))).Pairwise (· < ·) := by
  rw [List.pairwise_map]
  exact (List.Pairwise.filter _ List.pairwise_lt_range).imp (fun h => by omega)
theorem idlC_pw (E : List Evt) (t : Nat) : (idlC E t).Pairwise (· < ·) := rangeI_pw _ _
theorem idlC_bd (E : List Evt) (t : Nat) : ∀ i ∈ idlC E t, wi i 0 (8 - 1) := fun i hi => by
  have := idC_mem.1 hi
  unfold wi; omega
theorem evF_mem {idl : Nat → List Int} {y : Evt} : ∀ {f now : Nat}, y ∈ evF idl now f ↔ ∃ t : Nat, now ≤ t ∧ t < now + f ∧ y.tick = (t : Int) ∧ y.id ∈ idl t
  | 0, now => ⟨fun h => (by cases h), fun ⟨t, h1, h2, _⟩ => by omega⟩
  | f + 1, now => by
    rw [evF, List.mem_append, evF_mem (f := f) (now := now + 1)]
    constructor
    · rintro (h | ⟨t, h1, h2, h3⟩)
      · obtain ⟨i, hi, rfl⟩ := List.mem_map.1 h
        exact ⟨now, by omega, by omega, rfl, hi⟩
      · exact ⟨t, by omega, by omega, h3⟩
    · rintro ⟨t, h1, h2, h3, h4⟩
      by_cases e : t = now
      · subst e; exact .inl (List.mem_map.2 ⟨y.id, h4, by cases y; simp_all⟩)
      · exact .inr ⟨t, by omega, by omega, h3, h4⟩
theorem evF_nodup {idl : Nat → List Int} (h : ∀ t, (idl t).Nodup) : ∀ (f now : Nat), (evF idl now f).Nodup
  | 0, _ => List.nodup_nil
  | f + 1, now => by
    rw [evF]
    refine List.nodup_append.2 ⟨nodup_map (fun a b e => by injection e) (h now), evF_nodup h f (now + 1), fun a ha b hb e => ?_⟩
    obtain ⟨i, _, rfl⟩ := List.mem_map.1 ha
    have := evF_ge idl f (now + 1) b hb
    rw [← e] at this
    dsimp only at this
    omega
theorem pw_nodup {xs : List Int} (h : xs.Pairwise (· < ·)) : xs.Nodup := h.imp (fun h => by omega)
theorem evC_mem {E : List Evt} (h : EOK E) {y : Evt} : y ∈ evC E ↔ y ∈ E := by
  unfold evC
  rw [evF_mem]
  constructor
  · rintro ⟨t, _, _, h3, h4⟩
    have := (idlC_mem h).1 h4
    rw [← h3] at this
    cases y; exact this
  · intro hm
    obtain ⟨h1, h2, _, _⟩ := h.b y hm
    refine ⟨y.tick.toNat, by omega, by omega, by omega, (idlC_mem h).2 ?_⟩
    rw [show ((y.tick.toNat : Nat) : Int) = y.tick by omega]
    cases y; exact hm
theorem evC_nodup (E : List Evt) : (evC E).Nodup := evF_nodup (fun t => pw_nodup (idlC_pw E t)) _ _
theorem evC_len {E : List Evt} (h : EOK E) : (evC E).length ≤ 30 := Nat.le_trans (nodup_sub (evC_nodup E) (fun y hy => (evC_mem h).1 hy)) h.l
theorem evC_eq {E : List Evt} (h : EOK E) (f : Nat) : evF (idlC E) 0 (40 + f) = evC E := evF_more (fun t ht => idlC_out h ht) f
structure TOK (l : List Tap) : Prop where
  b : ∀ x ∈ l, 0 ≤ x.inp ∧ x.inp < 8 ∧ 0 ≤ x.wt ∧ x.wt < 300 ∧ 1 ≤ x.dl ∧ x.dl ≤ 16
  l : l.length ≤ 12
def cumC (V : List Evt) (l : List Tap) (to : Int) : Int := sumI (fun y : Evt => sumI (fun x : Tap => if x.inp = y.id ∧ y.tick + x.dl ≤ to then x.wt else 0) l) V
def XW (V : List Evt) (l : List Tap) (k : Int) : Int := sumI (fun x : Tap => if (⟨k - x.dl, x.inp⟩ : Evt) ∈ V then x.wt else 0) l
theorem cum_next {V : List Evt} {l : List Tap} (hV : V.Nodup) (k : Int) : cumC V l (k + 1) = cumC V l k + XW V l (k + 1) := by
  have e : XW V l (k + 1) = sumI (fun y : Evt => sumI (fun x : Tap => if x.inp = y.id ∧ y.tick + x.dl = k + 1 then x.wt else 0) l) V := by
    rw [sumI_swap (fun (x : Tap) (y : Evt) => if x.inp = y.id ∧ y.tick + x.dl = k + 1 then x.wt else 0)]
    refine sumI_congr (fun x _ => ?_)
    rw [← sumI_pick hV (a := (⟨k + 1 - x.dl, x.inp⟩ : Evt)) (c := x.wt)]
    refine sumI_congr (fun y _ => ?_)
    by_cases c : y = ⟨k + 1 - x.dl, x.inp⟩
    · subst c; rw [if_pos rfl, if_pos ⟨rfl, by dsimp only; omega⟩]
    · rw [if_neg c, if_neg (fun h => c (by cases y; simp only [Evt.mk.injEq] at *; omega))]
  rw [e, cumC, cumC, ← sumI_add]
  refine sumI_congr (fun y _ => ?_)
  rw [← sumI_add]
  refine sumI_congr (fun x _ => ?_)
  by_cases c : x.inp = y.id
  · by_cases c2 : y.tick + x.dl ≤ k
    · rw [if_pos ⟨c, by omega⟩, if_pos ⟨c, c2⟩, if_neg (fun h => by omega)]; omega
    · by_cases c3 : y.tick + x.dl = k + 1
      · rw [if_pos ⟨c, by omega⟩, if_neg (fun h => c2 h.2), if_pos ⟨c, c3⟩]; omega
      · rw [if_neg (fun h => by omega), if_neg (fun h => c2 h.2), if_neg (fun h => c3 h.2)]; rfl
  · rw [if_neg (fun h => c h.1), if_neg (fun h => c h.1), if_neg (fun h => c h.1)]; rfl
theorem XW_nn {V : List Evt} {l : List Tap} (h : TOK l) (k : Int) : 0 ≤ XW V l k := sumI_nonneg (fun x hx => by have := h.b x hx; split <;> omega)
theorem cum_zero {V : List Evt} {l : List Tap} (h : TOK l) (hV : ∀ y ∈ V, 0 ≤ y.tick) : cumC V l (-1) = 0 :=
  sumI_zero (fun y hy => sumI_zero (fun x hx => by
    have := h.b x hx; have := hV y hy
    rw [if_neg (fun h => by omega)]))
theorem cum_le {V : List Evt} {l : List Tap} (h : TOK l) (hV : V.length ≤ 30) (to : Int) : cumC V l to ≤ 107640 := by
  have h1 : ∀ y ∈ V, sumI (fun x : Tap => if x.inp = y.id ∧ y.tick + x.dl ≤ to then x.wt else 0) l ≤ 3588 := fun y _ => by
    have := sumI_leC (f := fun x : Tap => if x.inp = y.id ∧ y.tick + x.dl ≤ to then x.wt else 0) (c := 299) (xs := l) (fun x hx => by have := h.b x hx; (try dsimp only); split <;> omega)
    have := h.l
    omega
  have := sumI_leC h1
  unfold cumC
  omega
theorem cum_end {V : List Evt} {l : List Tap} (h : TOK l) (hV : ∀ y ∈ V, y.tick < 40) {to : Int} (ht : 55 ≤ to) : cumC V l to = cumC V l 55 :=
  sumI_congr (fun y hy => sumI_congr (fun x hx => by
    have := h.b x hx; have := hV y hy
    by_cases c : x.inp = y.id
    · rw [if_pos ⟨c, by omega⟩, if_pos ⟨c, by omega⟩]
    · rw [if_neg (fun h => c h.1), if_neg (fun h => c h.1)]))
theorem XW_end {V : List Evt} {l : List Tap} (h : TOK l) (hV : ∀ y ∈ V, y.tick < 40) {k : Int} (hk : 56 ≤ k) : XW V l k = 0 :=
  sumI_zero (fun x hx => by
    have := h.b x hx
    rw [if_neg (fun hm => by have := hV _ hm; dsimp only at this; omega)])
theorem tap_inX {E : List Evt} {l : List Tap} (hE : EOK E) (h : TOK l) (F : Nat → Nat → Bool) (k : Nat) : inX (l.map tapS) F (idlC E) k 0 = XW (evC E) l k := by
  unfold inX XW
  rw [sumI_map]
  refine sumI_congr (fun x hx => ?_)
  have hb := h.b x hx
  unfold tapS
  dsimp only
  have e : (srcF F (idlC E) ((k : Int) - x.dl).toNat (-1 - x.inp) = true) ↔ (⟨((((k : Int) - x.dl).toNat : Nat) : Int), x.inp⟩ : Evt) ∈ E := by
    unfold srcF
    rw [if_neg (by omega), decide_eq_true_eq, show -1 - (-1 - x.inp) = x.inp by omega]
    exact idlC_mem hE
  by_cases c : x.dl ≤ (k : Int)
  · rw [show ((((k : Int) - x.dl).toNat : Nat) : Int) = (k : Int) - x.dl by omega] at e
    by_cases c2 : (⟨(k : Int) - x.dl, x.inp⟩ : Evt) ∈ E
    · rw [if_pos ⟨rfl, c, e.2 c2⟩, if_pos ((evC_mem hE).2 c2)]
    · rw [if_neg (fun h => c2 (e.1 h.2.2)), if_neg (fun h => c2 ((evC_mem hE).1 h))]
  · rw [if_neg (fun h => c h.2.1), if_neg (fun hm => by have := hE.b _ ((evC_mem hE).1 hm); dsimp only at this; omega)]
theorem outF1_next (F : Nat → Nat → Bool) (k : Nat) : outF F 1 (k + 1) = outF F 1 k ++ if F k 0 = true then [⟨(k : Int), 0⟩] else [] := by
  rw [outF_next]
  congr 1
  cases h : F k 0 <;> simp [List.range_succ, h]
theorem outF1_pre (F : Nat → Nat → Bool) {t : Nat} : ∀ {T : Nat}, t ≤ T → ∃ r, outF F 1 T = outF F 1 t ++ r
  | 0, h => by obtain rfl : t = 0 := by omega
               exact ⟨[], by simp⟩
  | T + 1, h => by
    by_cases e : t = T + 1
    · subst e; exact ⟨[], by simp⟩
    · obtain ⟨r, hr⟩ := outF1_pre F (t := t) (T := T) (by omega)
      exact ⟨_, by rw [outF1_next, hr, List.append_assoc]⟩
theorem outF1_get {F : Nat → Nat → Bool} {t T : Nat} (h : F t 0 = true) (ht : t < T) : (outF F 1 T)[(outF F 1 t).length]? = some ⟨(t : Int), 0⟩ := by
  obtain ⟨r, hr⟩ := outF1_pre F (t := t + 1) (T := T) (by omega)
  rw [hr, outF1_next, if_pos h, List.append_assoc, List.getElem?_append_right (Nat.le_refl _)]
  simp
theorem outF1_at {F : Nat → Nat → Bool} {i : Nat} {y : Evt} : ∀ {T : Nat}, (outF F 1 T)[i]? = some y → ∃ t : Nat, t < T ∧ y = ⟨(t : Int), 0⟩ ∧ F t 0 = true ∧ (outF F 1 t).length = i
  | 0, h => by simp [outF] at h
  | T + 1, h => by
    rw [outF1_next] at h
    by_cases hi : i < (outF F 1 T).length
    · rw [List.getElem?_append_left hi] at h
      obtain ⟨t, h1, h2⟩ := outF1_at h
      exact ⟨t, by omega, h2⟩
    · rw [List.getElem?_append_right (by omega)] at h
      by_cases hF : F T 0 = true
      · rw [if_pos hF] at h
        have h0 := (List.getElem?_eq_some_iff.1 h).1
        simp only [List.length_cons, List.length_nil] at h0
        have h1 : i - (outF F 1 T).length = 0 := by omega
        rw [h1] at h
        simp only [List.getElem?_cons_zero, Option.some.injEq] at h
        exact ⟨T, by omega, h.symm, hF, by omega⟩
      · rw [if_neg hF] at h; simp at h
def cV (h : Int) (X : Nat → Int) : Nat → Int
  | 0 => 0
  | k + 1 => (stepV (adderP h) (cV h X k) (X k)).1
def cF (h : Int) (X : Nat → Int) (k _ : Nat) : Bool := (stepV (adderP h) (cV h X k) (X k)).2
theorem stepV_add {h v x : Int} (hh : 1 ≤ h) (h1 : 0 ≤ v) (h2 : 0 ≤ x) (h3 : v + x ≤ 1048576) : stepV (adderP h) v x = if v + x < h then (v + x, false) else (v + x - h, true) := by
  have e : tickV (adderP h) v x = v + x := by
    simp only [tickV, adderP, leakP, boundP, if_true]
    omega
  unfold stepV
  rw [e]
  show (if v + x < h then _ else _) = _
  by_cases c : v + x < h
  · rw [if_pos c, if_pos c]
  · rw [if_neg c, if_neg c]; rfl
def cumX (X : Nat → Int) : Nat → Int
  | 0 => 0
  | k + 1 => cumX X k + X k
theorem ctr_inv {h : Int} {X : Nat → Int} (hh : 1 ≤ h) (hX : ∀ k, 0 ≤ X k) (hB : ∀ k, cumX X k ≤ 1048576) : ∀ k, 0 ≤ cV h X k ∧ cV h X k + h * ((outF (cF h X) 1 k).length : Int) = cumX X k
  | 0 => by simp [cV, outF, cumX]
  | k + 1 => by
    obtain ⟨i1, i2⟩ := ctr_inv hh hX hB k
    have hb := hB (k + 1)
    have hx := hX k
    have hn : 0 ≤ h * ((outF (cF h X) 1 k).length : Int) := Int.mul_nonneg (by omega) (by omega)
    have hc : cumX X (k + 1) = cumX X k + X k := rfl
    have hs := stepV_add (h := h) (v := cV h X k) (x := X k) hh i1 hx (by omega)
    have hF : cF h X k 0 = (stepV (adderP h) (cV h X k) (X k)).2 := rfl
    have hV : cV h X (k + 1) = (stepV (adderP h) (cV h X k) (X k)).1 := rfl
    rw [hs] at hF hV
    rw [outF1_next, hV, hF, hc]
    by_cases c : cV h X k + X k < h
    · rw [if_pos c]; simp; omega
    · rw [if_neg c]
      simp only [if_true, List.length_append, List.length_cons, List.length_nil]
      have : h * (((outF (cF h X) 1 k).length + (0 + 1) : Nat) : Int) = h * ((outF (cF h X) 1 k).length : Int) + h := by
        rw [Int.natCast_add, Int.mul_add]; simp
      rw [this]; omega
theorem ctr_late {h : Int} {X : Nat → Int} (hh : 1 ≤ h) (hX : ∀ k, 0 ≤ X k) (hB : ∀ k, cumX X k ≤ 107640) (hz : ∀ k, 56 ≤ k → X k = 0) : ∀ j : Nat, cV h X (56 + j) < h ∨ cV h X (56 + j) + h * (j : Int) ≤ 107640
  | 0 => by
    obtain ⟨i1, i2⟩ := ctr_inv hh hX (fun k => by have := hB k; omega) 56
    have hn : 0 ≤ h * ((outF (cF h X) 1 56).length : Int) := Int.mul_nonneg (by omega) (by omega)
    have := hB 56
    refine .inr ?_
    simp only [Nat.add_zero, Int.natCast_zero, Int.mul_zero]
    omega
  | j + 1 => by
    obtain ⟨i1, i2⟩ := ctr_inv hh hX (fun k => by have := hB k; omega) (56 + j)
    have hn : 0 ≤ h * ((outF (cF h X) 1 (56 + j)).length : Int) := Int.mul_nonneg (by omega) (by omega)
    have hx := hz (56 + j) (by omega)
    have hb := hB (56 + j)
    have hs := stepV_add (h := h) (v := cV h X (56 + j)) (x := X (56 + j)) hh i1 (hX _) (by omega)
    have hV : cV h X (56 + j + 1) = (stepV (adderP h) (cV h X (56 + j)) (X (56 + j))).1 := rfl
    rw [hs, hx, Int.add_zero] at hV
    rw [show 56 + (j + 1) = 56 + j + 1 by omega, hV]
    have hm : h * ((j + 1 : Nat) : Int) = h * (j : Int) + h := by rw [Int.natCast_add, Int.mul_add]; simp
    rcases ctr_late hh hX hB hz j with g | g
    · rw [if_pos g]; exact .inl g
    · by_cases c : cV h X (56 + j) < h
      · rw [if_pos c]; exact .inl c
      · rw [if_neg c]; dsimp only; rw [hm]; right; omega
theorem ctr_done {h : Int} {X : Nat → Int} {T : Nat} (hh : 1 ≤ h) (hX : ∀ k, 0 ≤ X k) (hB : ∀ k, cumX X k ≤ 107640) (hz : ∀ k, 56 ≤ k → X k = 0) (hT : (T : Int) = 60 + 108000 / h) : cV h X T < h := by
  have h0 : 0 ≤ 108000 / h := Int.ediv_nonneg (by omega) (by omega)
  have h1 := Int.emod_add_mul_ediv 108000 h
  have h2 := Int.emod_lt_of_pos 108000 (show 0 < h by omega)
  have h4 : ((T - 56 : Nat) : Int) = 4 + 108000 / h := by omega
  have := ctr_late hh hX hB hz (T - 56)
  rw [show 56 + (T - 56) = T by omega, h4, Int.mul_add] at this
  obtain ⟨i1, _⟩ := ctr_inv hh hX (fun k => by have := hB k; omega) T
  omega
end Go.Proofs.Ytilcdghliigngaa
namespace Go.Proofs.Ytilcdghliigngaa
open Go.RowKit Go.Proofs.YtilcdghliigngaaGl Go.Proofs.YtilcdghliigngaaPm
set_option linter.unusedVariables false
set_option linter.unusedSimpArgs false
def cntN (l : List Tap) (h : Int) : NetP := ⟨[adderP h], 8, l.map tapS⟩
def cntX (E : List Evt) (l : List Tap) (k : Nat) : Int := XW (evC E) l k
def cntO (E : List Evt) (l : List Tap) (h : Int) (T : Nat) : List Evt := outF (cF h (cntX E l)) 1 T
theorem adder_ok {h : Int} (hh : 1 ≤ h ∧ h ≤ 1048576) : nCheck (adderP h) = 0 := by
  unfold nCheck adderP okP wi limP
  simp only []
  rw [if_pos (by decide), if_pos (by simp; omega)]
theorem gate_ok {h : Int} (hh : 1 ≤ h ∧ h ≤ 1048576) : nCheck (gateP h) = 0 := by
  unfold nCheck gateP okP wi limP
  simp only []
  rw [if_pos (by decide), if_pos (by simp; omega)]
theorem tap_syn {l : List Tap} (h : TOK l) : ∀ s ∈ l.map tapS, -8 ≤ s.src ∧ s.src ≤ -1 ∧ s.dst = 0 ∧ 0 ≤ s.wt ∧ s.wt < 300 ∧ 1 ≤ s.dl ∧ s.dl ≤ 16 := fun s hs => by
  obtain ⟨x, hx, rfl⟩ := List.mem_map.1 hs
  have := h.b x hx
  unfold tapS; dsimp only; omega
theorem tap_net {l : List Tap} {p : Prm} (h : TOK l) (hp : nCheck p = 0) : netCheck ⟨[p], 8, l.map tapS⟩ = 0 := by
  have hl := h.l
  have e2 : firstE (synE 1 8) (l.map tapS) = 0 := firstE_all (fun s hs => by
    have := tap_syn h s hs
    unfold synE
    rw [if_pos (by unfold wi; omega)])
  unfold netCheck
  simp only [List.length_cons, List.length_nil, List.length_map]
  rw [if_neg (by omega), if_neg (by omega), if_neg (by omega), if_neg (by simp [firstE, hp])]
  exact e2
theorem countP_ok {l : List Tap} {h : Int} (hl : TOK l) (hh : 1 ≤ h ∧ h ≤ 1000) : countP 8 l h = .ok (cntN l h) := by
  have hll := hl.l
  have e : firstE (tapE 8) l = 0 := firstE_all (fun x hx => by
    have := hl.b x hx
    exact tapE_0 (by unfold wi; omega) (by unfold wi; omega))
  unfold countP
  rw [if_pos (by decide), if_neg (by omega), if_neg (by rw [e]; decide), if_pos (by unfold wi; omega)]; rfl
theorem ctr_net {l : List Tap} {h : Int} (hl : TOK l) (hh : 1 ≤ h ∧ h ≤ 1000) : netCheck (cntN l h) = 0 := tap_net hl (adder_ok (by omega))
theorem tap_prep {E : List Evt} {l : List Tap} {p : Prm} {T : Nat} (hE : EOK E) (hl : TOK l) (hp : nCheck p = 0) (hT : T ≤ 10000) : preparedE ⟨[p], 8, l.map tapS⟩ (evC E) (T : Int) 10000 = 0 := by
  have h1 := tap_net hl hp
  have h2 := evC_len hE
  unfold preparedE
  rw [if_neg (by rw [h1]; decide), if_pos (by unfold wi; omega)]
  unfold orderedE
  rw [if_neg (by omega)]
  exact evF_ord (fun k => idlC_pw E k) (fun k => idlC_bd E k) 40 0 none (by decide) (fun e h => by cases h)
theorem tap_prepE {E : List Evt} {l : List Tap} {p : Prm} {T : Nat} (hl : TOK l) (hp : nCheck p = 0) (hT : 10000 < T) : preparedE ⟨[p], 8, l.map tapS⟩ (evC E) (T : Int) 10000 = 3 := by
  have h1 := tap_net hl hp
  unfold preparedE
  rw [if_neg (by rw [h1]; decide), if_neg (by unfold wi; omega)]
theorem XW_b {V : List Evt} {l : List Tap} (h : TOK l) (k : Int) : 0 ≤ XW V l k ∧ XW V l k ≤ 3600 := by
  refine ⟨XW_nn h k, ?_⟩
  have := sumI_leC (f := fun x : Tap => if (⟨k - x.dl, x.inp⟩ : Evt) ∈ V then x.wt else 0) (c := 300) (xs := l) (fun x hx => by have := h.b x hx; (try dsimp only); split <;> omega)
  have := h.l
  unfold XW
  omega
theorem tap_run {E : List Evt} {l : List Tap} {p : Prm} {F : Nat → Nat → Bool} {V : Nat → Nat → Int} {f : Nat} (hE : EOK E) (hl : TOK l) (hp : nCheck p = 0 ∧ p.rest = 0) (hf : 40 + f ≤ 10000) (hV0 : ∀ d, V 0 d = 0)
    (hV : ∀ k, stepV p (V k 0) (XW (evC E) l k) = (V (k + 1) 0, F k 0)) : runN ⟨[p], 8, l.map tapS⟩ (evC E) (40 + f) = some (outF F 1 (40 + f)) := by
  have h := sim_run (ns := [p]) (ip := 8) (ss := l.map tapS) (F := F) (idl := idlC E) (V := V) (T := 40 + f)
    ⟨fun q hq => by obtain rfl := List.mem_singleton.1 hq; exact hp,
     fun s hs => by have := tap_syn hl s hs; simp only [List.length_cons, List.length_nil]; omega,
     fun k => ⟨pw_nodup (idlC_pw E k), fun i hi => (idlC_bd E k i hi).1⟩⟩
    hV0
    (fun k d _ hd => by
      have : d = 0 := by simpa using hd
      subst this
      rw [tap_inX hE hl]
      have := XW_b (V := evC E) hl k
      omega)
    (fun k d q _ hq => by
      obtain ⟨hd, e⟩ := List.getElem?_eq_some_iff.1 hq
      have : d = 0 := by simpa using hd
      subst this
      simp only [List.getElem_cons_zero] at e
      subst e
      rw [tap_inX hE hl]
      exact hV k)
    (by simp only [List.length_cons, List.length_nil]; omega)
  rw [evC_eq hE] at h
  exact h
theorem cum_eq {E : List Evt} {l : List Tap} (hE : EOK E) (hl : TOK l) : ∀ k : Nat, cumX (cntX E l) k = cumC (evC E) l ((k : Int) - 1)
  | 0 => (cum_zero hl (fun y hy => (hE.b y ((evC_mem hE).1 hy)).1)).symm
  | k + 1 => by
    have h := cum_next (l := l) (evC_nodup E) ((k : Int) - 1)
    rw [show (k : Int) - 1 + 1 = (k : Int) by omega] at h
    rw [show ((k + 1 : Nat) : Int) - 1 = (k : Int) by omega, h, ← cum_eq hE hl k]; rfl
section
variable {E : List Evt} {l : List Tap} {h : Int}
theorem ctr_facts (hE : EOK E) (hl : TOK l) : (∀ k, 0 ≤ cntX E l k) ∧ (∀ k, cumX (cntX E l) k ≤ 107640) ∧ ∀ k, 56 ≤ k → cntX E l k = 0 :=
  ⟨fun k => XW_nn hl k, fun k => by rw [cum_eq hE hl]; exact cum_le hl (evC_len hE) _, fun k hk => XW_end hl (fun y hy => (hE.b y ((evC_mem hE).1 hy)).2.1) (by omega)⟩
theorem ctr_runN {T : Nat} (hE : EOK E) (hl : TOK l) (hh : 1 ≤ h ∧ h ≤ 1000) (hT : 40 ≤ T ∧ T ≤ 10000) : runN ⟨(cntN l h).ns, (cntN l h).inp, (cntN l h).ss⟩ (evC E) T = some (cntO E l h T) := by
  have := tap_run (p := adderP h) (F := cF h (cntX E l)) (V := fun k _ => cV h (cntX E l) k) (f := T - 40) hE hl ⟨adder_ok (by omega), rfl⟩ (by omega) (fun _ => rfl) (fun k => rfl)
  rw [show 40 + (T - 40) = T by omega] at this
  exact this
theorem ctr_len {T : Nat} (hE : EOK E) (hl : TOK l) (hh : 1 ≤ h ∧ h ≤ 1000) (hT : (T : Int) = 60 + 108000 / h) : ((cntO E l h T).length : Int) = cumC (evC E) l 1000 / h := by
  obtain ⟨f1, f2, f3⟩ := ctr_facts hE hl
  have hd := ctr_done hh.1 f1 f2 f3 hT
  obtain ⟨i1, i2⟩ := ctr_inv hh.1 f1 (fun k => by have := f2 k; omega) T
  have hb : ∀ y ∈ evC E, y.tick < 40 := fun y hy => (hE.b y ((evC_mem hE).1 hy)).2.1
  have h0 : 0 ≤ 108000 / h := Int.ediv_nonneg (by omega) (by omega)
  rw [cum_eq hE hl, cum_end hl hb (by omega), ← cum_end hl hb (show (55 : Int) ≤ 1000 by decide)] at i2
  rw [← i2, Int.add_mul_ediv_left _ _ (by omega), Int.ediv_eq_zero_of_lt i1 hd, Int.zero_add]; rfl
theorem ctr_at {T i : Nat} {y : Evt} (hE : EOK E) (hl : TOK l) (hh : 1 ≤ h ∧ h ≤ 1000) (hy : (cntO E l h T)[i]? = some y) : ((i : Int) + 1) * h ≤ cumC (evC E) l y.tick := by
  obtain ⟨t, h1, rfl, h3, h4⟩ := outF1_at hy
  obtain ⟨f1, f2, f3⟩ := ctr_facts hE hl
  obtain ⟨i1, i2⟩ := ctr_inv hh.1 f1 (fun k => by have := f2 k; omega) (t + 1)
  rw [cum_eq hE hl, outF1_next, if_pos h3, List.length_append, h4, show ((t + 1 : Nat) : Int) - 1 = (t : Int) by omega] at i2
  simp only [List.length_cons, List.length_nil] at i2
  rw [show ((i + (0 + 1) : Nat) : Int) = (i : Int) + 1 by omega, Int.mul_comm] at i2
  dsimp only
  omega
theorem ctr_olen (T : Nat) : (cntO E l h T).length ≤ T := by
  have := outF_len (cF h (cntX E l)) 1 T
  unfold cntO; omega
end
def mTap (m : Mrk) : Tap := ⟨m.inp, 1, 16 - m.off⟩
structure MOK (ms : List Mrk) : Prop where
  b : ∀ x ∈ ms, 0 ≤ x.inp ∧ x.inp < 8 ∧ 0 ≤ x.off ∧ x.off ≤ 15
  l : 1 ≤ ms.length ∧ ms.length ≤ 12
  nd : ms.Nodup
theorem MOK.tok {ms : List Mrk} (h : MOK ms) : TOK (ms.map mTap) := ⟨fun x hx => by
  obtain ⟨m, hm, rfl⟩ := List.mem_map.1 hx
  have := h.b m hm
  unfold mTap; dsimp only; omega, by rw [List.length_map]; exact h.l.2⟩
def patN (ms : List Mrk) (miss : Int) : NetP := ⟨[gateP ((ms.length : Int) - miss)], 8, ms.map mrkS⟩
theorem mTap_map (ms : List Mrk) : (ms.map mTap).map tapS = ms.map mrkS := by
  rw [List.map_map]; rfl
theorem patE_nodup {ip : Int} : ∀ {ms pre : List Mrk}, (∀ x ∈ ms, wi x.inp 0 (ip - 1) ∧ wi x.off 0 15) → ms.Nodup → (∀ x ∈ ms, ¬ x ∈ pre) → patE ip pre ms = 0
  | [], _, _, _, _ => rfl
  | m :: ms, pre, h, hn, hp => by
    obtain ⟨n1, n2⟩ := List.nodup_cons.1 hn
    have e := mrkE_0 (h m (.head _)).1 (h m (.head _)).2 (hp m (.head _))
    rw [patE, if_neg (by rw [e]; decide)]
    refine patE_nodup (fun x hx => h x (.tail _ hx)) n2 (fun x hx hm => ?_)
    rcases List.mem_append.1 hm with hm | hm
    · exact hp x (.tail _ hx) hm
    · obtain rfl := List.mem_singleton.1 hm; exact n1 hx
theorem patP_ok {ms : List Mrk} {miss : Int} (h : MOK ms) (hm : 0 ≤ miss ∧ miss < ms.length) : patP 8 ms miss = .ok (patN ms miss) := by
  have hl := h.l
  have e : patE 8 [] ms = 0 := patE_nodup (fun x hx => by have := h.b x hx; unfold wi; omega) h.nd (fun x _ hx => by cases hx)
  unfold patP
  rw [if_pos (by decide), if_neg (by omega), if_neg (by omega), if_neg (by rw [e]; decide), if_pos (by unfold wi; omega)]; rfl
theorem pat_net {ms : List Mrk} {miss : Int} (h : MOK ms) (hm : 0 ≤ miss ∧ miss < ms.length) : netCheck (patN ms miss) = 0 := by
  have hl := h.l
  have := tap_net h.tok (gate_ok (h := (ms.length : Int) - miss) (by omega))
  rw [mTap_map] at this
  exact this
def patF (E : List Evt) (ms : List Mrk) (miss : Int) (k _ : Nat) : Bool := decide ((ms.length : Int) - miss ≤ XW (evC E) (ms.map mTap) k)
def patV (E : List Evt) (ms : List Mrk) (miss : Int) : Nat → Int
  | 0 => 0
  | k + 1 => if (ms.length : Int) - miss ≤ XW (evC E) (ms.map mTap) k then 0 else XW (evC E) (ms.map mTap) k
def patO (E : List Evt) (ms : List Mrk) (miss : Int) (T : Nat) : List Evt := outF (patF E ms miss) 1 T
theorem pat_runN {E : List Evt} {ms : List Mrk} {miss : Int} (hE : EOK E) (h : MOK ms) (hm : 0 ≤ miss ∧ miss < ms.length) : runN ⟨(patN ms miss).ns, (patN ms miss).inp, (patN ms miss).ss⟩ (evC E) 80 = some (patO E ms miss 80) := by
  have hl := h.l
  have := tap_run (p := gateP ((ms.length : Int) - miss)) (F := patF E ms miss) (V := fun k _ => patV E ms miss k) (f := 40) hE h.tok ⟨gate_ok (by omega), rfl⟩ (by omega) (fun _ => rfl) (fun k => by
    have hb := XW_b (V := evC E) h.tok k
    rw [stepV_gate (by omega) (by omega)]; rfl)
  rw [mTap_map] at this
  exact this
theorem pat_prep {E : List Evt} {ms : List Mrk} {miss : Int} (hE : EOK E) (h : MOK ms) (hm : 0 ≤ miss ∧ miss < ms.length) : preparedE ⟨(patN ms miss).ns, (patN ms miss).inp, (patN ms miss).ss⟩ (evC E) 80 10000 = 0 := by
  have hl := h.l
  have := tap_prep (T := 80) hE h.tok (gate_ok (h := (ms.length : Int) - miss) (by omega)) (by omega)
  rw [mTap_map] at this
  exact this
def hereC (V : List Evt) (ms : List Mrk) (t : Int) : Int := sumI (fun x : Mrk => if (⟨t + x.off, x.inp⟩ : Evt) ∈ V then 1 else 0) ms
theorem here_eq (V : List Evt) (ms : List Mrk) (k : Int) : XW V (ms.map mTap) k = hereC V ms (k - 16) := by
  unfold XW hereC
  rw [sumI_map]
  refine sumI_congr (fun x _ => ?_)
  unfold mTap
  dsimp only
  rw [show k - (16 - x.off) = k - 16 + x.off by omega]
theorem here_step {V : List Evt} {ms : List Mrk} {t : Int} {j : Nat} {x : Mrk} (hx : ms[j]? = some x) : hereC V (ms.take (j + 1)) t = hereC V (ms.take j) t + if (⟨t + x.off, x.inp⟩ : Evt) ∈ V then 1 else 0 := by
  unfold hereC
  rw [List.take_add_one, hx, sumI_app]
  simp only [Option.toList, sumI]; omega
theorem here_le (V : List Evt) (ms : List Mrk) (t : Int) : 0 ≤ hereC V ms t ∧ hereC V ms t ≤ ms.length := by
  refine ⟨sumI_nonneg (fun x _ => by split <;> omega), ?_⟩
  have := sumI_leC (f := fun x : Mrk => if (⟨t + x.off, x.inp⟩ : Evt) ∈ V then (1 : Int) else 0) (c := 1) (xs := ms) (fun x _ => by (try dsimp only); split <;> omega)
  unfold hereC; omega
theorem pat_yes {E : List Evt} {ms : List Mrk} {miss : Int} {t : Nat} (h : ¬ hereC (evC E) ms ((t : Int) - 16) < (ms.length : Int) - miss) (ht : t < 80) : (patO E ms miss 80)[(patO E ms miss t).length]? = some ⟨(t : Int), 0⟩ ∧ (patO E ms miss (t + 1)).length = (patO E ms miss t).length + 1 := by
  have hF : patF E ms miss t 0 = true := by unfold patF; rw [here_eq]; simpa using (show (ms.length : Int) - miss ≤ hereC (evC E) ms ((t : Int) - 16) by omega)
  refine ⟨outF1_get hF ht, ?_⟩
  unfold patO
  rw [outF1_next, if_pos hF]; simp
theorem pat_no {E : List Evt} {ms : List Mrk} {miss : Int} {t : Nat} (h : hereC (evC E) ms ((t : Int) - 16) < (ms.length : Int) - miss) : (patO E ms miss (t + 1)).length = (patO E ms miss t).length := by
  have hF : ¬ patF E ms miss t 0 = true := by unfold patF; rw [here_eq, decide_eq_true_eq]; omega
  unfold patO
  rw [outF1_next, if_neg hF]; simp
theorem pat_olen (E : List Evt) (ms : List Mrk) (miss : Int) (t : Nat) : (patO E ms miss t).length ≤ t := by
  have := outF_len (patF E ms miss) 1 t
  unfold patO; omega
end Go.Proofs.Ytilcdghliigngaa
namespace Go.Proofs.YtilcdghliigngaaGl
set_option linter.unusedVariables false
set_option linter.unusedSimpArgs false
open Go.RowKit
def eB3 (ops : Array Oper) (listed : Array Bool) (i j k : Nat) : Bool := Region.ready .any ops listed == [i, j, k]
section
variable {P : Program} {r : Option Nat} {ops : Array Oper} {Q : Exit → Act → World → Prop} {w0 : World} {n : Nat} {D : List Deferred} {rest : List Oper} {L : Env} {A : List Atom}
variable {St : World → Prop} {K : Act → World → Prop} {f : Nat} {listed : Array Bool}
theorem Dr.e3 {i j k : Nat} {o o' o2 : Oper} (hi : ops[i]? = some o) (hj : ops[j]? = some o') (hk2 : ops[k]? = some o2) (hB : eB3 ops listed i j k = true)
    (h : Ops P r ops (NQ (fun a w => St w ∧ (Region.noSelect ops = true → plainB ops = true → wpK P r ops St K f (listed.setIfInBounds i true) a w))) w0 n D [o] L A)
    (h' : Ops P r ops (NQ (fun a w => St w ∧ (Region.noSelect ops = true → plainB ops = true → wpK P r ops St K f (listed.setIfInBounds j true) a w))) w0 n D [o'] L A)
    (h2 : Ops P r ops (NQ (fun a w => St w ∧ (Region.noSelect ops = true → plainB ops = true → wpK P r ops St K f (listed.setIfInBounds k true) a w))) w0 n D [o2] L A) : Dr P r ops St K w0 n D (f + 1) listed L A := by
  intro a w hk hs hst hsel hpl
  simp only [eB3, beq_iff_eq] at hB
  refine .inl ⟨fun h => (by rw [hB] at h; cases h), fun q hq => ?_⟩
  rw [hB] at hq
  have key : ∀ (i : Nat) (o : Oper), ops[i]? = some o → Ops P r ops (NQ (fun a w => St w ∧ (Region.noSelect ops = true → plainB ops = true → wpK P r ops St K f (listed.setIfInBounds i true) a w))) w0 n D [o] L A →
      wpOpIn (Fw r) 0 P ops (fun _ _ _ => False) i (fun a w => St w ∧ wpK P r ops St K f (listed.setIfInBounds i true) a w) a w := by
    intro i o hi h
    have h1 := h a w hk hs
    have h2 : wpOpIn (Fw r) 0 P ops (NQ (fun a w => St w ∧ (Region.noSelect ops = true → plainB ops = true → wpK P r ops St K f (listed.setIfInBounds i true) a w))) i
        (fun a w => St w ∧ (Region.noSelect ops = true → plainB ops = true → wpK P r ops St K f (listed.setIfInBounds i true) a w)) a w := by
      unfold wpListIn at h1
      unfold wpOpIn
      simp only [hi]
      exact h1
    exact oper_Q (fun a w (h : St w ∧ (Region.noSelect ops = true → plainB ops = true → wpK P r ops St K f (listed.setIfInBounds i true) a w)) => ⟨h.1, h.2 hsel hpl⟩) h2
  rcases List.mem_cons.1 hq with rfl | hq
  · exact key _ _ hi h
  · rcases List.mem_cons.1 hq with rfl | hq
    · exact key _ _ hj h'
    · obtain rfl := List.mem_singleton.1 hq
      exact key _ _ hk2 h2
end
end Go.Proofs.YtilcdghliigngaaGl
namespace Go.Proofs.YtilcdghliigngaaGl
set_option linter.unusedVariables false
set_option linter.unusedSimpArgs false
open Go.RowKit
def findS (k : List Int) : List (List Int × Value) → Nat → Option (Nat × Value)
  | [], _ => none
  | (j, v) :: es, i => if k = j then some (i, v) else findS k es (i + 1)
def entsS (l : List MapEntry) (es : List (List Int × Value)) : Prop := l.map (fun e => (e.key, e.val)) = es.map (fun p => (Value.agg (ints p.1).toArray, p.2))
theorem intS_u {P : Program} {T : TypeId} {n : Nat} (h : intS P T = some n) : ∃ fs, P.underlying T = some (.struct fs) ∧ intFs P 0 fs.toList = true ∧ fs.size = n := by
  unfold intS at h
  cases hu : P.underlying T with
  | none => rw [hu] at h; cases h
  | some d =>
    rw [hu] at h
    cases d <;> try (cases h; done)
    rename_i fs
    simp only [] at h
    split at h
    · rename_i hc
      simp only [Bool.and_eq_true, Bool.not_eq_true'] at hc
      exact ⟨fs, rfl, hc.2, Option.some.inj h⟩
    · cases h
section
variable {P : Program}
theorem run_findAskS {T : TypeId} {k : List Int} {w : World} (hT : intS P T = some k.length) : ∀ (l : List MapEntry) (es : List (List Int × Value)) (i : Nat), entsS l es → (∀ p ∈ es, p.1.length = k.length) →
    (Instr.findAsking T (.agg (ints k).toArray) l i).run P w = .ok (findS k es i) w
  | [], [], i, _, _ => by simp [Instr.findAsking, findS]
  | [], _ :: _, _, h, _ => by simp [entsS] at h
  | _ :: _, [], _, h, _ => by simp [entsS] at h
  | e :: l, (j, v) :: es, i, h, hl => by
    simp only [entsS, List.map_cons, List.cons.injEq, Prod.mk.injEq] at h
    obtain ⟨⟨h1, h2⟩, h3⟩ := h
    have he := (run_eqS (P := P) (w := w) (vs := k) (us := j) hT (hl _ (.head _))).2
    have ih := run_findAskS (w := w) hT l es (i + 1) h3 (fun p hp => hl p (.tail _ hp))
    simp only [Instr.findAsking, Op.equal, Op.maxDepth, Sem.run_bind, h1, he, Result.andThen_ok, findS, h2]
    by_cases c : k = j
    · subst c; simp
    · have : (k == j) = false := by simp [c]
      simp only [this, Bool.false_eq_true, if_false, if_neg c, ih]
theorem run_findS {T : TypeId} {k : List Int} {w : World} {l : List MapEntry} {es : List (List Int × Value)} (hT : intS P T = some k.length) (h : entsS l es) (hl : ∀ p ∈ es, p.1.length = k.length) :
    (Instr.findKey T (.agg (ints k).toArray) l).run P w = .ok (findS k es 0) w := by
  obtain ⟨fs, hu, _, _⟩ := intS_u hT
  have ha := run_findAskS (w := w) hT l es 0 h hl
  simp only [Instr.findKey, Sem.run_bind, run_underlying hu, Result.andThen_ok]
  cases l with
  | nil =>
    cases es with
    | nil => simp [Instr.findNow, findS]
    | cons p es => simp [entsS] at h
  | cons e l => simpa [Instr.findNow, Instr.sameNow] using ha
theorem run_chkFs {e : Bool} {d : Nat} {cs : List Int} {w : World} : ∀ (fs : List Field) (i : Nat), intFs P i fs = true → i + fs.length = cs.length →
    (forIn (m := Sem) fs PUnit.unit fun f _ => do
      if f.name ≠ "_" then
        Instr.checkKey e (d + 1) f.type (← part f.type (ints cs).toArray f.offset)
        pure (ForInStep.yield PUnit.unit)
      else pure (ForInStep.yield PUnit.unit)).run P w = .ok PUnit.unit w
  | [], i, _, _ => by simp
  | f :: fs, i, h, hl => by
    simp only [intFs, Bool.and_eq_true, beq_iff_eq, bne_iff_ne, ne_eq] at h
    obtain ⟨⟨⟨⟨hn, ho⟩, hk⟩, ha⟩, hr⟩ := h
    obtain ⟨k, hk⟩ := Option.isSome_iff_exists.1 hk
    simp only [List.length_cons] at hl
    obtain ⟨a, hva⟩ : ∃ a, cs[i]? = some a := ⟨_, List.getElem?_eq_getElem (by omega)⟩
    have p1 : (part f.type (ints cs).toArray f.offset).run P w = .ok (.int .i64 a) w := run_part1 ha (by rw [ho]; simp [ints, hva])
    have p2 : (Instr.checkKey e (d + 1) f.type (.int .i64 a)).run P w = .ok () w := by
      unfold Instr.checkKey
      simp only [Sem.run_bind, run_underlying (iK_u hk), Result.andThen_ok]
      rfl
    have ih := run_chkFs (e := e) (d := d) (cs := cs) (w := w) fs (i + 1) hr (by omega)
    simp only [List.forIn_cons, ne_eq, hn, not_false_eq_true, if_true, Sem.run_bind, p1, p2, Result.andThen_ok, Sem.run_pure]
    exact ih
theorem run_checkS {T : TypeId} {k : List Int} {w : World} (hT : intS P T = some k.length) (e : Bool) : (Instr.checkKey e 10000 T (.agg (ints k).toArray)).run P w = .ok () w := by
  obtain ⟨fs, hu, hf, hz⟩ := intS_u hT
  rw [show (10000 : Nat) = 9998 + 1 + 1 from rfl]
  unfold Instr.checkKey
  have := run_chkFs (P := P) (e := e) (d := 9998) (cs := k) (w := w) fs.toList 0 hf (by simpa using hz)
  simp only [Sem.run_bind, run_underlying hu, Result.andThen_ok]
  rw [← Array.forIn_toList]
  simp at this ⊢
  rw [this]
  rfl
end
def RoM (w : World) (b : Nat) (es : List (List Int × Value)) : Prop := ∃ l c, w.heap[b]? = some (.map l c) ∧ entsS l.toList es
theorem RoM.later {w w' : World} {b : Nat} {es : List (List Int × Value)} (h : RoM w b es) (hb : Below w.heap.size w w') : RoM w' b es := by
  obtain ⟨l, c, h1, h2⟩ := h
  exact ⟨l, c, (hb.block b (Array.getElem?_eq_some_iff.1 h1).1).trans h1, h2⟩
def smap (b : Nat) (es : List (List Int × Value)) : Atom where
  P := fun w S => RoM w b es ∧ ∀ k, S k ↔ k = b
  loc := fun {w w' S} h hs => ⟨let ⟨l, c, h1, h2⟩ := h.1; ⟨l, c, (hs b ((h.2 b).2 rfl)).trans h1, h2⟩, h.2⟩
  lt := fun {w S k} h hk => by obtain ⟨⟨l, c, h1, _⟩, h2⟩ := h; rw [(h2 _).1 hk]; exact (Array.getElem?_eq_some_iff.1 h1).1
theorem Sat.roM {w0 w : World} {A A' : List Atom} {b : Nat} {es : List (List Int × Value)} (h : Sat w0 w A) (hp : Pull A (smap b es) A') : RoM w b es := by
  obtain ⟨S, hS⟩ := h.mem hp; exact hS.1
section
variable {P : Program} {r : Option Nat} {ops : Array Oper} {Q : Exit → Act → World → Prop} {w0 : World} {n : Nat} {D : List Deferred} {rest : List Oper} {L : Env} {A : List Atom}
variable {t : Nat} {ty : TypeId} {pos : String} {af : Array Edge} {g : Option (Nat × Bool)}
theorem Ops.mkmS {T : TypeId} (h : ∀ b, Ops P r ops Q w0 n D rest ((t, .map (some b)) :: L) (smap b [] :: A))
    (hg : gd ops L ⟨some t, .makeMap T none, ty, pos, af, g⟩ = some true := by rfl) (ht : Nat.blt t n = true := by rfl) :
    Ops P r ops Q w0 n D (⟨some t, .makeMap T none, ty, pos, af, g⟩ :: rest) L A :=
  Ops.val (v := fun b => .map (some b)) (A' := fun b => smap b [] :: A) hg rfl ht rfl (fun a w hk hs => by
    refine ⟨w.heap.size, w.alloc (.map #[] 0), by simp [execOp, Instr.makeMap, newObj, Sem.run], ?_⟩
    exact hs.add (Below.alloc (Below.refl _ _) (Nat.le_refl _) _) (S := fun k => k = w.heap.size) ⟨⟨_, _, heap_alloc_new w _, rfl⟩, fun _ => Iff.rfl⟩ (fun _ hk => by omega)) h
theorem q_lookS {T K E : TypeId} {x y : Operand} {b : Nat} {v u : Value} (k : List Int) {es : List (List Int × Value)} (hT : mpT P T = some (K, E)) (hK : intS P K = some k.length) (hx : ev L x = some (.map (some b))) (hy : ev L y = some u) (hu : u = .agg (ints k).toArray)
    (hw : ∀ w, Sat w0 w A → RoM w b es) (hl : ∀ p ∈ es, p.1.length = k.length) (hv : ∀ w, (findS k es 0).map (·.2) = some v ∨ findS k es 0 = none ∧ (zeroValue E).run P w = .ok v w) : Qv P w0 n D L A (.lookup T x y false) v := fun a w hk hs' _ _ _ _ _ => ⟨by
    subst hu
    obtain ⟨l, c, h1, h2⟩ := hw w hs'
    have hv := hv w
    simp only [execOp, hk.ev hx, hk.ev hy, Instr.lookup, Sem.run_bind, run_underlying (mpT_u hT), Result.andThen_ok, MapKept.run_getObj_map h1, Sem.run_pure, run_checkS hK, run_findS hK h2 hl] at hv ⊢
    cases hf : findS k es 0 with
    | none =>
      rw [hf] at hv
      rcases hv with h3 | ⟨_, h3⟩
      · cases h3
      · simp [h3]
    | some p =>
      rw [hf] at hv
      rcases hv with h3 | ⟨h3, _⟩
      · simp only [Option.map_some, Option.some.injEq] at h3
        subst h3
        simp
      · simp at h3, rfl⟩
theorem Ops.mpuS {T K E : TypeId} {x y z : Operand} {b : Nat} {v u : Value} (k : List Int) {es : List (List Int × Value)} {A' : List Atom} (hT : mpT P T = some (K, E)) (hK : intS P K = some k.length) (hx : ev L x = some (.map (some b))) (hy : ev L y = some u) (hku : u = .agg (ints k).toArray) (hz : ev L z = some v)
    (hl : ∀ p ∈ es, p.1.length = k.length) (hn : findS k es 0 = none) (hu : Upd A (smap b es) (smap b (es ++ [(k, v)])) A') (h : Ops P r ops Q w0 n D rest L A')
    (hg : gd ops L ⟨none, .mapUpdate T x y z, ty, pos, af, g⟩ = some true := by rfl) :
    Ops P r ops Q w0 n D (⟨none, .mapUpdate T x y z, ty, pos, af, g⟩ :: rest) L A :=
  Ops.act (α := Unit) (A' := fun _ => A') hg rfl rfl (fun a w hk hs => by
    subst hku
    obtain ⟨R, hp, hp'⟩ := hu.pull
    obtain ⟨S, hS, _, hgo⟩ := (hs.pull hp).step
    obtain ⟨⟨l, c, hb, he⟩, hSb⟩ := hS
    have hr : (Instr.mapUpdate T (.map (some b)) (.agg (ints k).toArray) v).run P w = .ok () { w with heap := w.heap.setIfInBounds b (.map (l.push { key := .agg (ints k).toArray, val := v, born := c }) (c + 1)) } := by
      simp only [Instr.mapUpdate, Sem.run_bind, run_underlying (mpT_u hT), Result.andThen_ok, MapKept.run_getObj_map hb, run_checkS hK, run_findS hK he hl, hn]
      exact MapKept.run_setObj_map _ hb
    refine ⟨(), { w with heap := w.heap.setIfInBounds b (.map (l.push { key := .agg (ints k).toArray, val := v, born := c }) (c + 1)) }, by simp only [execOp, hk.ev hx, hk.ev hy, hk.ev hz, Sem.run_bind, hr, Result.andThen_ok, Sem.run_pure], Sat.push ?_ hp'⟩
    obtain ⟨h1, h2⟩ := MapKept.heap_set (o' := .map (l.push { key := .agg (ints k).toArray, val := v, born := c }) (c + 1)) hb
    refine hgo (S' := fun k => k = b) ⟨⟨_, _, h1, ?_⟩, fun _ => Iff.rfl⟩ (fun k hk => .inl ((hSb k).2 hk)) rfl rfl rfl (by simp) (fun k _ hk => h2 k (fun e => hk ((hSb k).2 e)))
    unfold entsS at *
    simp [he]) (fun _ => h)
end
end Go.Proofs.YtilcdghliigngaaGl
namespace Go.Proofs.Ytilcdghliigngaa
open Go.RowKit Go.Proofs.YtilcdghliigngaaGl Go.Proofs.YtilcdghliigngaaPm
set_option linter.unusedVariables false
set_option linter.unusedSimpArgs false
def mkT (x : Tap) : Tap := ⟨uW x.inp % 8, uW x.wt % 300, 1 + uW x.dl % 16⟩
def mkM (x : Tap) : Mrk := ⟨uW x.inp % 8, 16 - (1 + uW x.dl % 16)⟩
theorem mkT_ok {ts : List Tap} (h : ts.length ≤ 12) : TOK (ts.map mkT) := ⟨fun x hx => by
  obtain ⟨y, _, rfl⟩ := List.mem_map.1 hx
  unfold mkT; dsimp only; omega, by rw [List.length_map]; exact h⟩
def mksL (ts : List Tap) : List Mrk := ts.foldl (fun ms x => if mkM x ∈ ms then ms else ms ++ [mkM x]) []
theorem mksL_step {ts : List Tap} {k : Nat} {x : Tap} (hx : ts[k]? = some x) : mksL (ts.take (k + 1)) = if mkM x ∈ mksL (ts.take k) then mksL (ts.take k) else mksL (ts.take k) ++ [mkM x] := by
  unfold mksL
  rw [List.take_add_one, hx, List.foldl_append]; rfl
theorem mksL_in {ts : List Tap} {k : Nat} {x : Tap} (hx : ts[k]? = some x) (h : mkM x ∈ mksL (ts.take k)) : mksL (ts.take (k + 1)) = mksL (ts.take k) := by rw [mksL_step hx, if_pos h]
theorem mksL_out {ts : List Tap} {k : Nat} {x : Tap} (hx : ts[k]? = some x) (h : ¬ mkM x ∈ mksL (ts.take k)) : mksL (ts.take (k + 1)) = mksL (ts.take k) ++ [mkM x] := by rw [mksL_step hx, if_neg h]
theorem mksL_inv (ts : List Tap) : ∀ k, k ≤ ts.length → (mksL (ts.take k)).length ≤ k ∧ (0 < k → 0 < (mksL (ts.take k)).length) ∧ (mksL (ts.take k)).Nodup ∧ ∀ x ∈ mksL (ts.take k), 0 ≤ x.inp ∧ x.inp < 8 ∧ 0 ≤ x.off ∧ x.off ≤ 15
  | 0, _ => by simp [mksL]
  | k + 1, hk => by
    obtain ⟨x, hx⟩ : ∃ x, ts[k]? = some x := ⟨_, List.getElem?_eq_getElem (by omega)⟩
    obtain ⟨i1, i2, i3, i4⟩ := mksL_inv ts k (by omega)
    by_cases c : mkM x ∈ mksL (ts.take k)
    · rw [mksL_in hx c]
      exact ⟨by omega, fun _ => List.length_pos_of_mem c, i3, i4⟩
    · rw [mksL_out hx c]
      refine ⟨by rw [List.length_append]; simp; omega, fun _ => by rw [List.length_append]; simp, List.nodup_append.2 ⟨i3, by simp, fun a ha b hb e => ?_⟩, fun y hy => ?_⟩
      · obtain rfl := List.mem_singleton.1 hb; exact c (e ▸ ha)
      · rcases List.mem_append.1 hy with hy | hy
        · exact i4 y hy
        · obtain rfl := List.mem_singleton.1 hy
          unfold mkM; dsimp only; omega
theorem mksL_len (ts : List Tap) {k : Nat} (hk : k ≤ ts.length) : (mksL (ts.take k)).length ≤ k := (mksL_inv ts k hk).1
theorem mksL_ok {ts : List Tap} (h : 1 ≤ ts.length ∧ ts.length ≤ 12) : MOK (mksL ts) := by
  obtain ⟨i1, i2, i3, i4⟩ := mksL_inv ts ts.length (Nat.le_refl _)
  rw [List.take_length] at i1 i2 i3 i4
  exact ⟨i4, ⟨i2 (by omega), by omega⟩, i3⟩
theorem nE_ok {es : List Evt} (h : es.length ≤ 30) : EOK (es.map nE) := ⟨fun y hy => by
  obtain ⟨x, _, rfl⟩ := List.mem_map.1 hy
  unfold nE; dsimp only; omega, by rw [List.length_map]; exact h⟩
def evIJ (E : List Evt) (t i : Nat) : List Evt := evF (idlC E) 0 t ++ (idC E t i).map (fun x => (⟨(t : Int), x⟩ : Evt))
def evIJK (E : List Evt) (t i k : Nat) : List Evt := evIJ E t i ++ if (⟨(t : Int), (i : Int)⟩ : Evt) ∈ E.take k then [⟨(t : Int), (i : Int)⟩] else []
theorem evIJ_0 (E : List Evt) (t : Nat) : evIJ E t 0 = evF (idlC E) 0 t := by unfold evIJ idC; simp
theorem evIJ_8 (E : List Evt) (t : Nat) : evIJ E t 8 = evF (idlC E) 0 (t + 1) := by rw [evF_app, Nat.zero_add]; rfl
theorem idC_step (E : List Evt) (t i : Nat) : idC E t (i + 1) = idC E t i ++ if (⟨(t : Int), (i : Int)⟩ : Evt) ∈ E then [(i : Int)] else [] := by
  unfold idC
  rw [List.range_succ, List.filter_append, List.map_append]
  congr 1
  by_cases h : (⟨(t : Int), (i : Int)⟩ : Evt) ∈ E
  · rw [if_pos h]; simp [h]
  · rw [if_neg h]; simp [h]
theorem evIJK_0 (E : List Evt) (t i : Nat) : evIJK E t i 0 = evIJ E t i := by unfold evIJK; simp
theorem evIJK_end {E : List Evt} {t i k : Nat} (hk : E.length ≤ k) : evIJK E t i k = evIJ E t (i + 1) := by
  unfold evIJK evIJ
  rw [List.take_of_length_le hk, idC_step, List.map_append, ← List.append_assoc]
  congr 1
  split <;> rfl
theorem evIJ_mem {E : List Evt} {t i : Nat} : ¬ (⟨(t : Int), (i : Int)⟩ : Evt) ∈ evIJ E t i := by
  intro h
  rcases List.mem_append.1 h with h | h
  · obtain ⟨u, _, h2, h3, _⟩ := evF_mem.1 h
    dsimp only at h3; omega
  · obtain ⟨x, hx, e⟩ := List.mem_map.1 h
    have := (idC_mem.1 hx).2.1
    simp only [Evt.mk.injEq, true_and] at e
    omega
theorem evIJK_mem {E : List Evt} {t i k : Nat} : (⟨(t : Int), (i : Int)⟩ : Evt) ∈ evIJK E t i k ↔ (⟨(t : Int), (i : Int)⟩ : Evt) ∈ E.take k := by
  unfold evIJK
  constructor
  · intro h
    rcases List.mem_append.1 h with h | h
    · exact (evIJ_mem h).elim
    · split at h
      · assumption
      · cases h
  · intro h
    rw [if_pos h]; simp
theorem take_mem_step {α : Type} {xs : List α} {k : Nat} {x a : α} (hx : xs[k]? = some x) : a ∈ xs.take (k + 1) ↔ a ∈ xs.take k ∨ a = x := by
  rw [List.take_add_one, hx, List.mem_append]; simp
theorem evIJK_new {E : List Evt} {t i k : Nat} {y : Evt} (hy : E[k]? = some y) (he : y = ⟨(t : Int), (i : Int)⟩) (hn : ¬ y ∈ evIJK E t i k) : evIJK E t i (k + 1) = evIJK E t i k ++ [y] := by
  subst he
  rw [evIJK_mem] at hn
  unfold evIJK
  rw [if_neg hn, if_pos ((take_mem_step hy).2 (.inr rfl)), List.append_nil]
theorem evIJK_old {E : List Evt} {t i k : Nat} {y : Evt} (hy : E[k]? = some y) (he : y = ⟨(t : Int), (i : Int)⟩) (hn : y ∈ evIJK E t i k) : evIJK E t i (k + 1) = evIJK E t i k := by
  subst he
  rw [evIJK_mem] at hn
  unfold evIJK
  rw [if_pos hn, if_pos ((take_mem_step hy).2 (.inl hn))]
theorem evIJK_other {E : List Evt} {t i k : Nat} {y : Evt} (hy : E[k]? = some y) (he : ¬ y = ⟨(t : Int), (i : Int)⟩) : evIJK E t i (k + 1) = evIJK E t i k := by
  unfold evIJK
  by_cases c : (⟨(t : Int), (i : Int)⟩ : Evt) ∈ E.take k
  · rw [if_pos c, if_pos ((take_mem_step hy).2 (.inl c))]
  · rw [if_neg c, if_neg (fun h => by rcases (take_mem_step hy).1 h with h | h; exact c h; exact he h.symm)]
theorem idC_len (E : List Evt) (t i : Nat) : (idC E t i).length ≤ i := by
  unfold idC
  rw [List.length_map]
  have := List.length_filter_le (fun j : Nat => decide ((⟨(t : Int), (j : Int)⟩ : Evt) ∈ E)) (List.range i)
  rwa [List.length_range] at this
theorem evF_len8 (E : List Evt) : ∀ (f now : Nat), (evF (idlC E) now f).length ≤ f * 8
  | 0, _ => by simp [evF]
  | f + 1, now => by
    rw [evF, List.length_append, List.length_map]
    have h1 := idC_len E now 8
    have h2 := evF_len8 E f (now + 1)
    unfold idlC at h1 ⊢ h2
    omega
theorem evIJ_len (E : List Evt) (t i : Nat) : (evIJ E t i).length ≤ t * 8 + i := by
  unfold evIJ
  rw [List.length_append, List.length_map]
  have h1 := idC_len E t i
  have h2 := evF_len8 E t 0
  omega
theorem evIJK_len (E : List Evt) (t i k : Nat) : (evIJK E t i k).length ≤ t * 8 + i + 1 := by
  unfold evIJK
  rw [List.length_append]
  have := evIJ_len E t i
  split <;> simp <;> omega
def kvE (e : Evt) : List Int × Value := ([e.tick, e.id], .bool true)
def mpE (V : List Evt) : List (List Int × Value) := V.map kvE
theorem mpE_len (V : List Evt) : ∀ p ∈ mpE V, p.1.length = [(0 : Int), 0].length := fun p hp => by
  obtain ⟨e, _, rfl⟩ := List.mem_map.1 hp; rfl
theorem find_mpE (y : Evt) : ∀ (V : List Evt) (i : Nat), (y ∈ V → ∃ j, findS [y.tick, y.id] (mpE V) i = some (j, .bool true)) ∧ (¬ y ∈ V → findS [y.tick, y.id] (mpE V) i = none)
  | [], i => ⟨fun h => (by cases h), fun _ => rfl⟩
  | v :: V, i => by
    obtain ⟨h1, h2⟩ := find_mpE y V (i + 1)
    have e : mpE (v :: V) = ([v.tick, v.id], .bool true) :: mpE V := rfl
    rw [e]
    simp only [findS]
    by_cases c : y = v
    · subst c; rw [if_pos rfl]
      exact ⟨fun _ => ⟨i, rfl⟩, fun h => (h (.head _)).elim⟩
    · rw [if_neg (fun h => c (by cases y; cases v; simp_all))]
      refine ⟨fun h => ?_, fun h => h2 (fun hm => h (.tail _ hm))⟩
      rcases List.mem_cons.1 h with h | h
      · exact (c h).elim
      · exact h1 h
theorem look_mpE {y : Evt} {V : List Evt} {w : World} {P : Program} {t : TypeId} (hz : (zeroValue t).run P w = .ok (.bool false) w) : (findS [y.tick, y.id] (mpE V) 0).map (·.2) = some (.bool (decide (y ∈ V))) ∨ findS [y.tick, y.id] (mpE V) 0 = none ∧ (zeroValue t).run P w = .ok (.bool (decide (y ∈ V))) w := by
  obtain ⟨h1, h2⟩ := find_mpE y V 0
  by_cases c : y ∈ V
  · obtain ⟨j, hj⟩ := h1 c
    left; rw [hj]; simp [c]
  · right; rw [h2 c]; simp [c, hz]
theorem mpE_app (V : List Evt) (y : Evt) : mpE (V ++ [y]) = mpE V ++ [([y.tick, y.id], .bool true)] := by unfold mpE; simp [kvE]
def inC (l : List Tap) (to : Int) (y : Evt) : Int := sumI (fun x : Tap => if x.inp = y.id ∧ y.tick + x.dl ≤ to then x.wt else 0) l
theorem inC_app (l : List Tap) (to : Int) (y : Evt) {j : Nat} {x : Tap} (hx : l[j]? = some x) : inC (l.take (j + 1)) to y = inC (l.take j) to y + if x.inp = y.id ∧ y.tick + x.dl ≤ to then x.wt else 0 := by
  unfold inC
  rw [List.take_add_one, hx, sumI_app]
  simp only [Option.toList, sumI]; omega
theorem inC_yes {l : List Tap} {to : Int} {y : Evt} {j : Nat} {x : Tap} (hx : l[j]? = some x) (h1 : x.inp = y.id) (h2 : y.tick + x.dl ≤ to) : inC (l.take (j + 1)) to y = inC (l.take j) to y + x.wt := by rw [inC_app l to y hx, if_pos ⟨h1, h2⟩]
theorem inC_no {l : List Tap} {to : Int} {y : Evt} {j : Nat} {x : Tap} (hx : l[j]? = some x) (h : ¬ (x.inp = y.id ∧ y.tick + x.dl ≤ to)) : inC (l.take (j + 1)) to y = inC (l.take j) to y := by rw [inC_app l to y hx, if_neg h, Int.add_zero]
theorem inC_end {l : List Tap} {to : Int} {y : Evt} {j : Nat} (hj : l.length ≤ j) : inC (l.take j) to y = inC l to y := by rw [List.take_of_length_le hj]
theorem inC_b {l : List Tap} (h : TOK l) (to : Int) (y : Evt) (j : Nat) : 0 ≤ inC (l.take j) to y ∧ inC (l.take j) to y ≤ 3588 := by
  have hm : ∀ x ∈ l.take j, x ∈ l := fun x hx => List.mem_of_mem_take hx
  refine ⟨sumI_nonneg (fun x hx => by have := h.b x (hm x hx); (try dsimp only); split <;> omega), ?_⟩
  have := sumI_leC (f := fun x : Tap => if x.inp = y.id ∧ y.tick + x.dl ≤ to then x.wt else 0) (c := 299) (xs := l.take j) (fun x hx => by have := h.b x (hm x hx); (try dsimp only); split <;> omega)
  have := h.l
  have : (l.take j).length ≤ l.length := by rw [List.length_take]; omega
  unfold inC
  omega
theorem cumC_step {V : List Evt} {l : List Tap} {to : Int} {k : Nat} {y : Evt} (hy : V[k]? = some y) : cumC (V.take (k + 1)) l to = cumC (V.take k) l to + inC l to y := by
  unfold cumC
  rw [List.take_add_one, hy, sumI_app]
  simp only [Option.toList, sumI]
  show _ + (inC l to y + 0) = _
  omega
theorem cumC_end {V : List Evt} {l : List Tap} {to : Int} {k : Nat} (hk : V.length ≤ k) : cumC (V.take k) l to = cumC V l to := by rw [List.take_of_length_le hk]
theorem cumC_b {V : List Evt} {l : List Tap} (h : TOK l) (hV : V.length ≤ 30) (to : Int) (k : Nat) : 0 ≤ cumC (V.take k) l to ∧ cumC (V.take k) l to ≤ 107640 := by
  have hl : (V.take k).length ≤ V.length := by rw [List.length_take]; omega
  refine ⟨sumI_nonneg (fun y _ => sumI_nonneg (fun x hx => by have := h.b x hx; (try dsimp only); split <;> omega)), cum_le h (by omega) to⟩
theorem here_yes {V : List Evt} {ms : List Mrk} {t : Int} {j : Nat} {x : Mrk} (hx : ms[j]? = some x) (h : (⟨t + x.off, x.inp⟩ : Evt) ∈ V) : hereC V (ms.take (j + 1)) t = hereC V (ms.take j) t + 1 := by rw [here_step hx, if_pos h]
theorem here_no {V : List Evt} {ms : List Mrk} {t : Int} {j : Nat} {x : Mrk} (hx : ms[j]? = some x) (h : ¬ (⟨t + x.off, x.inp⟩ : Evt) ∈ V) : hereC V (ms.take (j + 1)) t = hereC V (ms.take j) t := by rw [here_step hx, if_neg h, Int.add_zero]
theorem here_end {V : List Evt} {ms : List Mrk} {t : Int} {j : Nat} (hj : ms.length ≤ j) : hereC V (ms.take j) t = hereC V ms t := by rw [List.take_of_length_le hj]
theorem here_b (V : List Evt) (ms : List Mrk) (t : Int) (j : Nat) : 0 ≤ hereC V (ms.take j) t ∧ hereC V (ms.take j) t ≤ ms.length := by
  have h1 := here_le V (ms.take j) t
  have : (ms.take j).length ≤ ms.length := by rw [List.length_take]; omega
  omega
end Go.Proofs.Ytilcdghliigngaa
namespace Go.Proofs.Ytilcdghliigngaa
open Go.RowKit Go.Proofs.YtilcdghliigngaaGl Go.Proofs.YtilcdghliigngaaPm
set_option linter.unusedVariables false
set_option linter.unusedSimpArgs false
theorem mpT_105 : mpT Try.prog 105 = some (88, 4) := by kernel_rfl
theorem again_step {M : List Mrk} {j : Nat} {z m : Mrk} (hz : M[j]? = some z) : decide (m ∈ M.take (j + 1)) = (decide (m ∈ M.take j) || decide (z = m)) := by
  by_cases c : m ∈ M.take j
  · rw [decide_eq_true c, decide_eq_true ((take_mem_step hz).2 (.inl c))]; rfl
  · rw [decide_eq_false c, Bool.false_or]
    by_cases e : z = m
    · rw [decide_eq_true e, decide_eq_true ((take_mem_step hz).2 (.inr e.symm))]
    · rw [decide_eq_false e, decide_eq_false (fun h => by rcases (take_mem_step hz).1 h with h | h; exact c h; exact e h.symm)]
theorem mk_eq {z : Mrk} {x : Tap} (h : [z.inp, z.off] = [uW x.inp % 8, 16 - (1 + uW x.dl % 16)]) : z = mkM x := by
  cases z; simp only [List.cons.injEq, and_true] at h
  simp only [mkM, Mrk.mk.injEq]; exact h
theorem nE_eq {x : Evt} {t i : Int} (h : [uW x.tick % 40, uW x.id % 8] = [t, i]) : nE x = ⟨t, i⟩ := by
  simp only [List.cons.injEq, and_true] at h
  simp only [nE, Evt.mk.injEq]; exact h
theorem cumC_nn {V : List Evt} {l : List Tap} (h : TOK l) (hV : V.length ≤ 30) (to : Int) : 0 ≤ cumC V l to ∧ cumC V l to ≤ 107640 := by
  have := cumC_b h hV to V.length
  rwa [List.take_length] at this
theorem sum_c (to : Int) (eb lb : Nat) (ea la : Option Addr) (ec lc : Nat) (V : List Evt) (l : List Tap) (w : World) (he : w.cell? ⟨eb, 0, none⟩ = some (.slice ea V.length ec)) (hl : w.cell? ⟨lb, 0, none⟩ = some (.slice la l.length lc)) (hE : RoL w ea eEvt V) (hT : RoL w la eTap l) (hV : EOK V) (hVl : V.length ≤ 30) (hl0 : TOK l) : Calls Try.prog 43 [.int .i64 to, .pointer (some ⟨eb, 0, none⟩), .pointer (some ⟨lb, 0, none⟩)].toArray w fun e w' => e = .returned (.int .i64 (cumC V l to)) ∧ Sat w w' [] := by
  refine fstart Try.func43 rfl rfl (Sat.nil w) ?_
  refine Cd.seq ?_
  refine Cd.region ?_
  have hll := hl0.l
  refine Ops.q (q_asg rfl) ?_
  refine Ops.to rfl ?_
  refine Cd.seq ?_
  refine Cd.region ?_
  refine Ops.q (q_asg rfl) ?_
  refine Ops.to rfl ?_
  refine Cd.seq ?_
  refine Cd.seq ?_
  refine Cd.region ?_
  refine Ops.q (q_ldR (v := .slice ea V.length ec) isA_27 rfl he) ?_
  refine Ops.q (q_len esz_27 rfl) ?_
  refine Ops.q (q_mv rfl) ?_
  refine Ops.to rfl ?_
  refine Cd.block ?_
  refine Cd.lp (σ := Nat) (fun k => k ≤ V.length) (fun k => [(0, .int .i64 to), (1, .pointer (some ⟨eb, 0, none⟩)), (2, .pointer (some ⟨lb, 0, none⟩)), (10, .slice ea V.length ec), (11, .int .i64 (V.length : Int)), (5, .int .i64 (cumC (V.take k) l to)), (12, .int .i64 (k : Int))]) (fun k => []) (fun k => V.length - k) 0 (Nat.zero_le _) ⟨rfl, rfl, rfl, rfl, rfl, rfl, rfl, trivial⟩ (fun _ hs => hs) ?_
  intro k hI
  refine Cd.seq ?_
  refine Cd.region ?_
  by_cases hk : (k : Int) < (V.length : Int)
  · refine Ops.q (q_cmp rfl rfl (c_lt hk)) ?_
    obtain ⟨x1, hx2⟩ : ∃ x, V[k]? = some x := ⟨_, List.getElem?_eq_getElem (by omega)⟩
    obtain ⟨ab3, ao4, rfl⟩ := RoL.pos hE eEvt_len hx2
    have hyb := hV.b _ (List.mem_iff_getElem?.2 ⟨k, hx2⟩)
    have hcb := cumC_b hl0 hVl to k
    refine Ops.to rfl ?_
    refine Cd.seq ?_
    refine Cd.cond_t rfl ?_
    refine Cd.skipTo rfl ?_
    refine Cd.seq ?_
    refine Cd.block ?_
    refine Cd.seq ?_
    refine Cd.region ?_
    refine Ops.q (q_ix (k := k) esz_27 rfl rfl (by omega)) ?_
    refine Ops.q (q_ldRN [.int .i64 x1.tick, .int .i64 x1.id] isA_88 sz_88 rfl (fun j u hu => hE.at eEvt_len hx2 hu)) ?_
    refine Ops.alc [.int .i64 0, .int .i64 0] zc_88 ?_
    intro b5
    refine Ops.stB [.int .i64 x1.tick, .int .i64 x1.id] [.int .i64 x1.tick, .int .i64 x1.id] sz_88 rfl rfl rfl (one rfl) .here rfl rfl ?_
    refine Ops.to rfl ?_
    refine Cd.seq ?_
    refine Cd.region ?_
    refine Ops.q (q_ldR (v := .slice la l.length lc) isA_67 rfl hl) ?_
    refine Ops.q (q_len esz_67 rfl) ?_
    refine Ops.q (q_mv rfl) ?_
    refine Ops.to rfl ?_
    refine Cd.block ?_
    refine Cd.lp (σ := Nat) (fun j => j ≤ l.length) (fun j => [(0, .int .i64 to), (1, .pointer (some ⟨eb, 0, none⟩)), (2, .pointer (some ⟨lb, 0, none⟩)), (7, .pointer (some ⟨b5, 0, none⟩)), (10, .slice (some ⟨ab3, ao4, none⟩) V.length ec), (11, .int .i64 (V.length : Int)), (12, .int .i64 (k : Int)), (16, .slice la l.length lc), (17, .int .i64 (l.length : Int)), (5, .int .i64 (cumC (V.take k) l to + inC (l.take j) to x1)), (18, .int .i64 (j : Int))]) (fun j => [blk b5 88 [.int .i64 x1.tick, .int .i64 x1.id]]) (fun j => l.length - j) 0 (Nat.zero_le _) ⟨rfl, rfl, rfl, rfl, rfl, rfl, rfl, rfl, rfl, (by rw [show inC (l.take 0) to x1 = 0 from rfl, Int.add_zero]; rfl), rfl, trivial⟩ (fun _ hs => hs) ?_
    intro j hI
    refine Cd.seq ?_
    refine Cd.region ?_
    by_cases hj : (j : Int) < (l.length : Int)
    · refine Ops.q (q_cmp rfl rfl (c_lt hj)) ?_
      obtain ⟨x6, hx7⟩ : ∃ x, l[j]? = some x := ⟨_, List.getElem?_eq_getElem (by omega)⟩
      obtain ⟨ab8, ao9, rfl⟩ := RoL.pos hT eTap_len hx7
      have hxb := hl0.b _ (List.mem_iff_getElem?.2 ⟨j, hx7⟩)
      have hib := inC_b hl0 to x1 j
      refine Ops.to rfl ?_
      refine Cd.seq ?_
      refine Cd.cond_t rfl ?_
      refine Cd.skipTo rfl ?_
      refine Cd.seq ?_
      refine Cd.block ?_
      refine Cd.seq ?_
      refine Cd.region ?_
      refine Ops.q (q_ix (k := j) esz_67 rfl rfl (by omega)) ?_
      refine Ops.q (q_ldRN [.int .i64 x6.inp, .int .i64 x6.wt, .int .i64 x6.dl] isA_70 sz_70 rfl (fun j u hu => hT.at eTap_len hx7 hu)) ?_
      refine Ops.alc [.int .i64 0, .int .i64 0, .int .i64 0] zc_70 ?_
      intro b10
      refine Ops.stB [.int .i64 x6.inp, .int .i64 x6.wt, .int .i64 x6.dl] [.int .i64 x6.inp, .int .i64 x6.wt, .int .i64 x6.dl] sz_70 rfl rfl rfl (one rfl) .here rfl rfl ?_
      refine Ops.to rfl ?_
      refine Cd.seq ?_
      refine Cd.region ?_
      refine Ops.q (q_fa fo_70_0 rfl) ?_
      refine Ops.q (q_ldB isA_3 rfl .here rfl) ?_
      refine Ops.q (q_fa fo_88_1 rfl) ?_
      refine Ops.q (q_ldB isA_3 rfl (.there .here) rfl) ?_
      by_cases hi : x6.inp = x1.id
      · refine Ops.q (q_cmp rfl rfl (c_eq hi)) ?_
        refine Ops.q (q_mv rfl) ?_
        refine Ops.q (q_fa fo_88_0 rfl) ?_
        refine Ops.q (q_ldB isA_3 rfl (.there .here) rfl) ?_
        refine Ops.q (q_fa fo_70_2 rfl) ?_
        refine Ops.q (q_ldB isA_3 rfl .here rfl) ?_
        refine Ops.q (q_ar rfl rfl (a_add (by omega))) ?_
        refine Ops.q (q_mv rfl) ?_
        by_cases ht : x1.tick + x6.dl ≤ to
        · refine Ops.q (q_cmp rfl rfl (c_le ht)) ?_
          refine Ops.q (q_pickT rfl rfl) ?_
          refine Ops.to rfl ?_
          refine Cd.cond_t rfl ?_
          refine Cd.region ?_
          refine Ops.q (q_mv rfl) ?_
          refine Ops.q (q_fa fo_70_1 rfl) ?_
          refine Ops.q (q_ldB isA_3 rfl .here rfl) ?_
          refine Ops.q (q_ar rfl rfl (a_add (by omega))) ?_
          refine Ops.q (q_asg rfl) ?_
          refine Ops.to rfl ?_
          refine Cd.region ?_
          refine Ops.q (q_ar rfl rfl (a_inc (by omega))) ?_
          refine Ops.q (q_mv rfl) ?_
          refine Ops.rnd (j + 1) rfl (by omega) (by omega) ⟨rfl, rfl, rfl, rfl, rfl, rfl, rfl, rfl, rfl, (by (try dsimp only); rw [inC_yes hx7 hi ht, ← Int.add_assoc]; rfl), rfl, trivial⟩ (fun _ hs => (hs.pull .here).drop) 
        · refine Ops.q (q_cmp rfl rfl (c_nle (by omega))) ?_
          refine Ops.q (q_pickT rfl rfl) ?_
          refine Ops.to rfl ?_
          refine Cd.cond_f rfl ?_
          refine Cd.skipTo rfl ?_
          refine Cd.region ?_
          refine Ops.q (q_ar rfl rfl (a_inc (by omega))) ?_
          refine Ops.q (q_mv rfl) ?_
          refine Ops.rnd (j + 1) rfl (by omega) (by omega) ⟨rfl, rfl, rfl, rfl, rfl, rfl, rfl, rfl, rfl, (by (try dsimp only); rw [inC_no hx7 (fun h9 => ht h9.2)]; rfl), rfl, trivial⟩ (fun _ hs => (hs.pull .here).drop) 
      · refine Ops.q (q_cmp rfl rfl (c_neq hi)) ?_
        refine Ops.q (q_mv rfl) ?_
        refine Ops.sk ?_
        refine Ops.sk ?_
        refine Ops.sk ?_
        refine Ops.sk ?_
        refine Ops.sk ?_
        refine Ops.sk ?_
        refine Ops.sk ?_
        refine Ops.q (q_pickF rfl rfl) ?_
        refine Ops.to rfl ?_
        refine Cd.cond_f rfl ?_
        refine Cd.skipTo rfl ?_
        refine Cd.region ?_
        refine Ops.q (q_ar rfl rfl (a_inc (by omega))) ?_
        refine Ops.q (q_mv rfl) ?_
        refine Ops.rnd (j + 1) rfl (by omega) (by omega) ⟨rfl, rfl, rfl, rfl, rfl, rfl, rfl, rfl, rfl, (by (try dsimp only); rw [inC_no hx7 (fun h9 => hi h9.1)]; rfl), rfl, trivial⟩ (fun _ hs => (hs.pull .here).drop) 
    · refine Ops.q (q_cmp rfl rfl (c_nlt (by omega))) ?_
      refine Ops.to rfl ?_
      refine Cd.seq ?_
      refine Cd.cond_f rfl ?_
      refine Cd.exitTo rfl ?_
      refine Cd.region ?_
      refine Ops.q (q_ar rfl rfl (a_inc (by omega))) ?_
      refine Ops.q (q_mv rfl) ?_
      refine Ops.rnd (k + 1) rfl (by omega) (by omega) ⟨rfl, rfl, rfl, rfl, rfl, (by (try dsimp only); rw [cumC_step hx2, inC_end (show l.length ≤ j by omega)]; rfl), rfl, trivial⟩ (fun _ hs => (hs.pull .here).drop) 
  · refine Ops.q (q_cmp rfl rfl (c_nlt (by omega))) ?_
    refine Ops.to rfl ?_
    refine Cd.seq ?_
    refine Cd.cond_f rfl ?_
    refine Cd.exitTo rfl ?_
    refine Cd.seq ?_
    refine Cd.region ?_
    refine Ops.q (q_mv rfl) ?_
    refine Ops.q (q_asg rfl) ?_
    refine Ops.to rfl ?_
    refine Cd.rt (fn := Try.f43) [.int .i64 (cumC (V.take k) l to)] (by with_reducible repeat (first | exact rq_here | apply rq_then | apply rq_block)) rfl ⟨rfl, trivial⟩ ?_
    intro w' hs'
    exact ⟨by rw [cumC_end (show V.length ≤ k by omega)]; rfl, hs'.none⟩
theorem found_c (E : List Evt) (ma : Option Addr) (mc : Nat) (ms : List Mrk) (miss : Int) (ea : Option Addr) (ec mb : Nat) (w : World) (hE0 : EOK E) (hM0 : MOK ms) (hm : 0 ≤ miss ∧ miss < ms.length) (hM : RoL w ma eMark ms) (hmc : ms.length ≤ mc) (hE : RoL w ea eEvt (evC E)) (hec : (evC E).length ≤ ec) (hmp : RoM w mb (mpE (evC E))) : Calls Try.prog 44 [.slice ma ms.length mc, .int .i64 miss, .slice ea (evC E).length ec, .map (some mb)].toArray w fun e w' => e = .returned (.bool true) ∧ Sat w w' [] := by
  refine fstart Try.func44 rfl rfl (Sat.nil w) ?_
  refine Cd.seq ?_
  refine Cd.region ?_
  have hml := hM0.l
  refine Ops.q (q_asg rfl) ?_
  refine Ops.to rfl ?_
  refine Cd.seq ?_
  refine Cd.region ?_
  refine Ops.q (q_mv rfl) ?_
  refine Ops.q (q_mv rfl) ?_
  refine Ops.cl (α := (Option Addr × Nat) × (Option Addr × Nat)) (v := fun x => .tuple [.agg [.slice x.1.1 (patN ms miss).ns.length x.1.2, .int .i64 (patN ms miss).inp, .slice x.2.1 (patN ms miss).ss.length x.2.2].toArray, .int .i64 0].toArray) (B := fun x => [row x.1.1 x.1.2 116 8 (patN ms miss).ns.length ((patN ms miss).ns.flatMap ePrm), row x.2.1 x.2.2 126 4 (patN ms miss).ss.length ((patN ms miss).ss.flatMap eSyn)]) en_32 rfl (fun w hs => retR_ok (pattern_c _ _ _ ms _ w (hM.later hs.below) hmc) (patP_ok hM0 hm)) ?_
  rintro ⟨⟨p, pc⟩, ⟨ps, psc⟩⟩
  refine Ops.q (q_mv rfl) ?_
  refine Ops.q (q_ext rfl rfl) ?_
  refine Ops.q (q_ext rfl rfl) ?_
  refine Ops.alc [.slice none 0 0, .int .i64 0, .slice none 0 0] zc_32 ?_
  intro b1
  refine Ops.stB [.slice p ((patN ms miss).ns.length) pc, .int .i64 ((patN ms miss).inp), .slice ps ((patN ms miss).ss.length) psc] [.slice p ((patN ms miss).ns.length) pc, .int .i64 ((patN ms miss).inp), .slice ps ((patN ms miss).ss.length) psc] sz_32 rfl rfl rfl (one rfl) .here rfl rfl ?_
  refine Ops.q (q_asg rfl) ?_
  refine Ops.to rfl ?_
  refine Cd.seq ?_
  refine Cd.seq ?_
  refine Cd.region ?_
  refine Ops.q (q_mv rfl) ?_
  refine Ops.q (q_cmp rfl rfl (c_nne (by decide))) ?_
  refine Ops.q (q_mv rfl) ?_
  refine Ops.q (q_ldBN [.slice p ((patN ms miss).ns.length) pc, .int .i64 ((patN ms miss).inp), .slice ps ((patN ms miss).ss.length) psc] isA_32 sz_32 rfl .here rfl) ?_
  refine Ops.cp en_35 rfl (fun w hs => chk0R (check_c _ _ _ _ (patN ms miss).ns (patN ms miss).inp (patN ms miss).ss w (hs.ownRo (.there .here)) (hs.ownRo (.there (.there .here)))) (pat_net hM0 hm)) ?_
  refine Ops.q (q_cmp rfl rfl (c_nne (by decide))) ?_
  refine Ops.q (q_pickF rfl rfl) ?_
  refine Ops.to rfl ?_
  refine Cd.cond_f rfl ?_
  refine Cd.skipTo rfl ?_
  refine Cd.seq ?_
  refine Cd.region ?_
  refine Ops.q (q_ldBN [.slice p ((patN ms miss).ns.length) pc, .int .i64 ((patN ms miss).inp), .slice ps ((patN ms miss).ss.length) psc] isA_32 sz_32 rfl .here rfl) ?_
  refine Ops.q (q_mv rfl) ?_
  refine Ops.cl (α := Option Addr × Nat) (v := fun x => Value.tuple [Value.slice x.1 (patO E ms miss 80).length x.2, Value.int IntKind.i64 0].toArray) (B := fun x => [row x.1 x.2 88 2 (patO E ms miss 80).length ((patO E ms miss 80).flatMap eEvt)]) en_36 rfl (fun w hs => run_some_n _ _ _ _ (patN ms miss).ns (patN ms miss).inp (patN ms miss).ss _ _ (evC E) (evC E).length rfl 80 w (hs.ownRo (.there .here)) (hs.ownRo (.there (.there .here))) (hE.later hs.below) hec (patO E ms miss 80) (pat_prep hE0 hM0 hm) (by rw [show (80 : Int).toNat = 80 from rfl]; exact pat_runN hE0 hM0 hm)) ?_
  rintro ⟨sa, sac⟩
  refine Ops.q (q_mv rfl) ?_
  refine Ops.q (q_ext rfl rfl) ?_
  refine Ops.q (q_ext rfl rfl) ?_
  refine Ops.q (q_asg rfl) ?_
  refine Ops.q (q_asg rfl) ?_
  refine Ops.to rfl ?_
  refine Cd.seq ?_
  refine Cd.seq ?_
  refine Cd.region ?_
  refine Ops.q (q_mv rfl) ?_
  refine Ops.q (q_cmp rfl rfl (c_nne (by decide))) ?_
  refine Ops.to rfl ?_
  refine Cd.cond_f rfl ?_
  refine Cd.skipTo rfl ?_
  refine Cd.seq ?_
  refine Cd.region ?_
  refine Ops.q (q_asg rfl) ?_
  refine Ops.to rfl ?_
  refine Cd.seq ?_
  refine Cd.seq ?_
  refine Cd.region ?_
  refine Ops.q (q_asg rfl) ?_
  refine Ops.to rfl ?_
  refine Cd.block ?_
  refine Cd.lp (σ := Nat) (fun q => q ≤ 80) (fun q => [(0, .slice ma ms.length mc), (1, .int .i64 miss), (2, .slice ea ((evC E).length) ec), (3, .map (some mb)), (11, .slice sa ((patO E ms miss 80).length) sac), (12, .int .i64 ((patO E ms miss q).length : Int)), (13, .int .i64 ((q : Int) - 16))]) (fun q => [row sa sac 88 2 ((patO E ms miss 80).length) ((patO E ms miss 80).flatMap eEvt)]) (fun q => 80 - q) 0 (Nat.zero_le _) ⟨rfl, rfl, rfl, rfl, rfl, rfl, rfl, trivial⟩ (fun _ hs => ((((hs.pull .here).pull (.there .here)).drop.pull (.there .here)).drop.pull (.there .here)).drop) ?_
  intro q hI
  refine Cd.seq ?_
  refine Cd.seq ?_
  refine Cd.region ?_
  refine Ops.q (q_mv rfl) ?_
  by_cases hq : (q : Int) - 16 < 64
  · refine Ops.q (q_cmp rfl rfl (c_lt hq)) ?_
    refine Ops.to rfl ?_
    refine Cd.cond_t rfl ?_
    refine Cd.skipTo rfl ?_
    refine Cd.seq ?_
    refine Cd.block ?_
    refine Cd.seq ?_
    refine Cd.region ?_
    refine Ops.q (q_asg rfl) ?_
    refine Ops.to rfl ?_
    refine Cd.seq ?_
    refine Cd.seq ?_
    refine Cd.region ?_
    refine Ops.q (q_mv rfl) ?_
    refine Ops.q (q_len esz_73 rfl) ?_
    refine Ops.q (q_mv rfl) ?_
    refine Ops.to rfl ?_
    refine Cd.block ?_
    refine Cd.lp (σ := Nat) (fun j => j ≤ ms.length) (fun j => [(0, .slice ma ms.length mc), (1, .int .i64 miss), (2, .slice ea ((evC E).length) ec), (3, .map (some mb)), (11, .slice sa ((patO E ms miss 80).length) sac), (12, .int .i64 ((patO E ms miss q).length : Int)), (13, .int .i64 ((q : Int) - 16)), (42, .slice ma ms.length mc), (43, .int .i64 (ms.length : Int)), (14, .int .i64 (hereC (evC E) (ms.take j) ((q : Int) - 16))), (44, .int .i64 (j : Int))]) (fun j => [row sa sac 88 2 ((patO E ms miss 80).length) ((patO E ms miss 80).flatMap eEvt)]) (fun j => ms.length - j) 0 (Nat.zero_le _) ⟨rfl, rfl, rfl, rfl, rfl, rfl, rfl, rfl, rfl, rfl, rfl, trivial⟩ (fun _ hs => (hs.pull .here)) ?_
    intro j hI
    refine Cd.seq ?_
    refine Cd.region ?_
    by_cases hj : (j : Int) < (ms.length : Int)
    · refine Ops.q (q_cmp rfl rfl (c_lt hj)) ?_
      obtain ⟨x2, hx3⟩ : ∃ x, ms[j]? = some x := ⟨_, List.getElem?_eq_getElem (by omega)⟩
      obtain ⟨ab4, ao5, rfl⟩ := RoL.pos hM eMark_len hx3
      have hxb := hM0.b _ (List.mem_iff_getElem?.2 ⟨j, hx3⟩)
      have hhb := here_b (evC E) ms ((q : Int) - 16) j
      refine Ops.to rfl ?_
      refine Cd.seq ?_
      refine Cd.cond_t rfl ?_
      refine Cd.skipTo rfl ?_
      refine Cd.seq ?_
      refine Cd.block ?_
      refine Cd.seq ?_
      refine Cd.region ?_
      refine Ops.q (q_ix (k := j) esz_73 rfl rfl (by omega)) ?_
      refine Ops.q (q_ldRN [.int .i64 x2.inp, .int .i64 x2.off] isA_76 sz_76 rfl (fun j u hu => hM.at eMark_len hx3 hu)) ?_
      refine Ops.alc [.int .i64 0, .int .i64 0] zc_76 ?_
      intro b6
      refine Ops.stB [.int .i64 x2.inp, .int .i64 x2.off] [.int .i64 x2.inp, .int .i64 x2.off] sz_76 rfl rfl rfl (one rfl) .here rfl rfl ?_
      refine Ops.to rfl ?_
      refine Cd.seq ?_
      refine Cd.region ?_
      refine Ops.q (q_mv rfl) ?_
      refine Ops.q (q_mv rfl) ?_
      refine Ops.q (q_fa fo_76_1 rfl) ?_
      refine Ops.q (q_ldB isA_3 rfl .here rfl) ?_
      refine Ops.q (q_ar rfl rfl (a_add (by omega))) ?_
      refine Ops.q (q_fa fo_76_0 rfl) ?_
      refine Ops.q (q_ldB isA_3 rfl .here rfl) ?_
      refine Ops.cp en_39 rfl (fun w hs => at_c (((q : Int) - 16) + x2.off) x2.inp w) ?_
      refine Ops.q (q_lookS (v := .bool (decide ((⟨(q : Int) - 16 + x2.off, x2.inp⟩ : Evt) ∈ evC E))) [(q : Int) - 16 + x2.off, x2.inp] mpT_105 intS_88 rfl rfl rfl (fun w hs => hmp.later hs.below) (mpE_len _) (fun w => look_mpE (y := (⟨(q : Int) - 16 + x2.off, x2.inp⟩ : Evt)) (zero_4 w))) ?_
      refine Ops.to rfl ?_
      refine Cd.cond rfl (fun h7 => ?_) (fun h7 => ?_)
      · refine Cd.region ?_
        refine Ops.q (q_mv rfl) ?_
        refine Ops.q (q_ar rfl rfl (a_add (by omega))) ?_
        refine Ops.q (q_asg rfl) ?_
        refine Ops.to rfl ?_
        refine Cd.region ?_
        refine Ops.q (q_ar rfl rfl (a_inc (by omega))) ?_
        refine Ops.q (q_mv rfl) ?_
        refine Ops.rnd (j + 1) rfl (by omega) (by omega) ⟨rfl, rfl, rfl, rfl, rfl, rfl, rfl, rfl, rfl, (by (try dsimp only); rw [here_yes hx3 (by simpa using h7)]; rfl), rfl, trivial⟩ (fun _ hs => ((hs.pull (.there .here)).pull (.there .here)).drop) 
      · refine Cd.skipTo rfl ?_
        refine Cd.region ?_
        refine Ops.q (q_ar rfl rfl (a_inc (by omega))) ?_
        refine Ops.q (q_mv rfl) ?_
        refine Ops.rnd (j + 1) rfl (by omega) (by omega) ⟨rfl, rfl, rfl, rfl, rfl, rfl, rfl, rfl, rfl, (by (try dsimp only); rw [here_no hx3 (by simpa using h7)]; rfl), rfl, trivial⟩ (fun _ hs => ((hs.pull (.there .here)).pull (.there .here)).drop) 
    · refine Ops.q (q_cmp rfl rfl (c_nlt (by omega))) ?_
      refine Ops.to rfl ?_
      refine Cd.seq ?_
      refine Cd.cond_f rfl ?_
      refine Cd.exitTo rfl ?_
      refine Cd.seq ?_
      refine Cd.seq ?_
      refine Cd.region ?_
      refine Ops.q (q_mv rfl) ?_
      refine Ops.q (q_mv rfl) ?_
      refine Ops.q (q_len esz_73 rfl) ?_
      refine Ops.q (q_mv rfl) ?_
      refine Ops.q (q_ar rfl rfl (a_sub (by omega))) ?_
      by_cases hn : hereC (evC E) (ms.take j) ((q : Int) - 16) < (ms.length : Int) - miss
      · refine Ops.q (q_cmp rfl rfl (c_lt hn)) ?_
        have hn2 : hereC (evC E) ms ((q : Int) - 16) < (ms.length : Int) - miss := by rw [← here_end (show ms.length ≤ j by omega)]; exact hn
        refine Ops.to rfl ?_
        refine Cd.cond_t rfl ?_
        refine Cd.exitTo rfl ?_
        refine Cd.region ?_
        refine Ops.q (q_mv rfl) ?_
        refine Ops.q (q_ar rfl rfl (a_add (by omega))) ?_
        refine Ops.q (q_asg rfl) ?_
        refine Ops.rnd (q + 1) rfl (by omega) (by omega) ⟨rfl, rfl, rfl, rfl, rfl, (by rw [pat_no hn2]; rfl), (by rw [show ((q + 1 : Nat) : Int) - 16 = (q : Int) - 16 + 1 by omega]; rfl), trivial⟩ (fun _ hs => (hs.pull .here)) 
      · refine Ops.q (q_cmp rfl rfl (c_nlt (by omega))) ?_
        have hn2 : ¬ hereC (evC E) ms ((q : Int) - 16) < (ms.length : Int) - miss := by rw [← here_end (show ms.length ≤ j by omega)]; exact hn
        have hpy := pat_yes hn2 (by omega)
        have hpl := (List.getElem?_eq_some_iff.1 hpy.1).1
        have hpo := pat_olen E ms miss q
        refine Ops.rowpos .here (by omega) ?_
        rintro sb rfl
        refine Ops.to rfl ?_
        refine Cd.cond_f rfl ?_
        refine Cd.skipTo rfl ?_
        refine Cd.seq ?_
        refine Cd.seq ?_
        refine Cd.draw rfl (by kernel_rfl) (.cons .here .nil) ?_
        intro F8 St9 hP10 hF11 hR12
        refine Dr.q (i := 0) hP10 rfl (by kernel_rfl) (q_mv rfl) ?_
        refine Dr.q (i := 1) hP10 rfl (by kernel_rfl) (q_mv rfl) ?_
        refine Dr.q (i := 2) hP10 rfl (by kernel_rfl) (q_len esz_27 rfl) ?_
        refine Dr.q (i := 3) hP10 rfl (by kernel_rfl) (q_cmp rfl rfl (c_nge (by omega))) ?_
        refine Dr.q (i := 4) hP10 rfl (by kernel_rfl) (q_mv rfl) ?_
        refine Dr.q (i := 5) hP10 rfl (by kernel_rfl) (q_mv rfl) ?_
        refine Dr.q (i := 6) hP10 rfl (by kernel_rfl) (q_mv rfl) ?_
        refine Dr.q (i := 7) hP10 rfl (by kernel_rfl) (q_ix (k := ((patO E ms miss q).length)) esz_27 rfl rfl (by omega)) ?_
        refine Dr.q (i := 8) hP10 rfl (by kernel_rfl) (q_ldON [.int .i64 (q : Int), .int .i64 0] isA_88 sz_88 rfl .here (fm_atN eEvt_len hpy.1)) ?_
        refine Dr.q (i := 9) hP10 rfl (by kernel_rfl) (q_mv rfl) ?_
        refine Dr.q (i := 10) hP10 rfl (by kernel_rfl) (q_ar rfl rfl (a_add (by omega))) ?_
        refine Dr.e (i := 11) rfl (by kernel_rfl) ?_
        refine Ops.cp en_39 rfl (fun w hs => at_c (((q : Int) - 16) + 16) 0 w) ?_
        refine Dr.back (fun _ hs => hF11 .here hs) ?_
        refine Dr.q (i := 12) hP10 rfl (by kernel_rfl) (q_neF [(q : Int), 0] [(q : Int) - 16 + 16, 0] intS_88 rfl rfl rfl rfl rfl (by rw [show (q : Int) - 16 + 16 = (q : Int) by omega])) ?_
        refine Dr.q (i := 13) hP10 rfl (by kernel_rfl) (q_pickF rfl rfl) ?_
        refine Dr.tail 14 (by kernel_rfl) ?_
        refine Ops.sat ?_ (fun _ hs => hR12 .here hs)
        refine Ops.to rfl ?_
        refine Cd.cond_f rfl ?_
        refine Cd.skipTo rfl ?_
        refine Cd.region ?_
        refine Ops.q (q_mv rfl) ?_
        refine Ops.q (q_ar rfl rfl (a_inc (by omega))) ?_
        refine Ops.q (q_asg rfl) ?_
        refine Ops.to rfl ?_
        refine Cd.region ?_
        refine Ops.q (q_mv rfl) ?_
        refine Ops.q (q_ar rfl rfl (a_add (by omega))) ?_
        refine Ops.q (q_asg rfl) ?_
        refine Ops.rnd (q + 1) rfl (by omega) (by omega) ⟨rfl, rfl, rfl, rfl, rfl, (by rw [hpy.2]; rfl), (by rw [show ((q + 1 : Nat) : Int) - 16 = (q : Int) - 16 + 1 by omega]; rfl), trivial⟩ (fun _ hs => (hs.pull .here)) 
  · refine Ops.q (q_cmp rfl rfl (c_nlt (by omega))) ?_
    have hq8 : q = 80 := by omega
    refine Ops.to rfl ?_
    refine Cd.cond_f rfl ?_
    refine Cd.exitTo rfl ?_
    refine Cd.seq ?_
    refine Cd.region ?_
    refine Ops.q (q_mv rfl) ?_
    refine Ops.q (q_mv rfl) ?_
    refine Ops.q (q_len esz_27 rfl) ?_
    refine Ops.q (q_cmp rfl rfl (c_eq (by rw [hq8]))) ?_
    refine Ops.q (q_asg rfl) ?_
    refine Ops.to rfl ?_
    refine Cd.rt (fn := Try.f44) [.bool true] (by with_reducible repeat (first | exact rq_here | apply rq_then | apply rq_block)) rfl ⟨rfl, trivial⟩ ?_
    intro w' hs'
    exact ⟨rfl, hs'.none⟩
end Go.Proofs.Ytilcdghliigngaa
namespace Go.Proofs.Ytilcdghliigngaa
open Go.RowKit Go.Proofs.YtilcdghliigngaaGl Go.Proofs.YtilcdghliigngaaPm
set_option linter.unusedVariables false
set_option linter.unusedSimpArgs false
theorem run_err_c (na : Option Addr) (nc : Nat) (sa : Option Addr) (sc : Nat) (ns : List Prm) (ip : Int) (ss : List Syn) (ea : Option Addr) (ec : Nat) (evs : List Evt) (t : Int) (w : World) (hN : RoL w na ePrm ns) (hS : RoL w sa eSyn ss) (hE : RoL w ea eEvt evs) (hec : evs.length ≤ ec) (c : Int) (hp : preparedE ⟨ns, ip, ss⟩ evs t 10000 = c) (hc : c ≠ 0) : Calls Try.prog 36 [.agg [.slice na ns.length nc, .int .i64 ip, .slice sa ss.length sc].toArray, .slice ea evs.length ec, .int .i64 t].toArray w fun e w' => e = .returned (.tuple [.slice none 0 0, .int .i64 c].toArray) ∧ Sat w w' [] := by
  subst hp; exact run_err na nc sa sc ns ip ss ea ec evs t w hN hS hE hec hc
theorem counts_c (th mi : Int) (ta : Option Addr) (tc : Nat) (ts : List Tap) (ia : Option Addr) (ic : Nat) (es : List Evt) (w : World) (hT : RoL w ta eTap ts) (hE : RoL w ia eEvt es) (hth : 0 ≤ th ∧ th ≤ 65535) (hmi : 0 ≤ mi ∧ mi ≤ 255) : Calls Try.prog 11 [.slice ta ts.length tc, .int .u16 th, .int .u8 mi, .slice ia es.length ic].toArray w fun e w' => e = .returned (.bool true) ∧ Sat w w' [] := by
  refine fstart Try.func11 rfl rfl (Sat.nil w) ?_
  refine Cd.seq ?_
  refine Cd.region ?_
  refine Ops.q (q_asg rfl) ?_
  refine Ops.to rfl ?_
  refine Cd.seq ?_
  refine Cd.seq ?_
  refine Cd.region ?_
  refine Ops.q (q_mv rfl) ?_
  refine Ops.q (q_len esz_67 rfl) ?_
  by_cases h1 : (ts.length : Int) < 1
  · refine Ops.q (q_cmp rfl rfl (c_lt h1)) ?_
    refine Ops.q (q_mv rfl) ?_
    refine Ops.sk ?_
    refine Ops.sk ?_
    refine Ops.sk ?_
    refine Ops.q (q_pickT rfl rfl) ?_
    refine Ops.q (q_mv rfl) ?_
    refine Ops.sk ?_
    refine Ops.sk ?_
    refine Ops.sk ?_
    refine Ops.q (q_pickT rfl rfl) ?_
    refine Ops.to rfl ?_
    refine Cd.cond_t rfl ?_
    refine Cd.seq ?_
    refine Cd.region ?_
    refine Ops.cp en_13 rfl (fun w hs => works_c w) ?_
    refine Ops.q (q_asg rfl) ?_
    refine Ops.to rfl ?_
    refine Cd.rt (fn := Try.f11) [.bool true] (by with_reducible repeat (first | exact rq_here | apply rq_then | apply rq_block)) rfl ⟨rfl, trivial⟩ ?_
    intro w' hs'
    exact ⟨rfl, hs'.none⟩
  · refine Ops.q (q_cmp rfl rfl (c_nlt (by omega))) ?_
    refine Ops.q (q_mv rfl) ?_
    refine Ops.q (q_mv rfl) ?_
    refine Ops.q (q_len esz_67 rfl) ?_
    by_cases h2 : 12 < (ts.length : Int)
    · refine Ops.q (q_cmp rfl rfl (c_gt h2)) ?_
      refine Ops.q (q_pickF rfl rfl) ?_
      refine Ops.q (q_mv rfl) ?_
      refine Ops.sk ?_
      refine Ops.sk ?_
      refine Ops.sk ?_
      refine Ops.q (q_pickT rfl rfl) ?_
      refine Ops.to rfl ?_
      refine Cd.cond_t rfl ?_
      refine Cd.seq ?_
      refine Cd.region ?_
      refine Ops.cp en_13 rfl (fun w hs => works_c w) ?_
      refine Ops.q (q_asg rfl) ?_
      refine Ops.to rfl ?_
      refine Cd.rt (fn := Try.f11) [.bool true] (by with_reducible repeat (first | exact rq_here | apply rq_then | apply rq_block)) rfl ⟨rfl, trivial⟩ ?_
      intro w' hs'
      exact ⟨rfl, hs'.none⟩
    · refine Ops.q (q_cmp rfl rfl (c_ngt (by omega))) ?_
      refine Ops.q (q_pickF rfl rfl) ?_
      refine Ops.q (q_mv rfl) ?_
      refine Ops.q (q_mv rfl) ?_
      refine Ops.q (q_len esz_27 rfl) ?_
      by_cases h3 : 30 < (es.length : Int)
      · refine Ops.q (q_cmp rfl rfl (c_gt h3)) ?_
        refine Ops.q (q_pickF rfl rfl) ?_
        refine Ops.to rfl ?_
        refine Cd.cond_t rfl ?_
        refine Cd.seq ?_
        refine Cd.region ?_
        refine Ops.cp en_13 rfl (fun w hs => works_c w) ?_
        refine Ops.q (q_asg rfl) ?_
        refine Ops.to rfl ?_
        refine Cd.rt (fn := Try.f11) [.bool true] (by with_reducible repeat (first | exact rq_here | apply rq_then | apply rq_block)) rfl ⟨rfl, trivial⟩ ?_
        intro w' hs'
        exact ⟨rfl, hs'.none⟩
      · refine Ops.q (q_cmp rfl rfl (c_ngt (by omega))) ?_
        refine Ops.q (q_pickF rfl rfl) ?_
        refine Ops.to rfl ?_
        refine Cd.cond_f rfl ?_
        refine Cd.skipTo rfl ?_
        refine Cd.seq ?_
        refine Cd.region ?_
        refine Ops.alc [.slice none 0 0] zc_67 ?_
        intro b4
        refine Ops.to rfl ?_
        refine Cd.seq ?_
        refine Cd.region ?_
        refine Ops.q (q_asg rfl) ?_
        refine Ops.to rfl ?_
        refine Cd.seq ?_
        refine Cd.seq ?_
        refine Cd.region ?_
        refine Ops.q (q_mv rfl) ?_
        refine Ops.q (q_len esz_67 rfl) ?_
        refine Ops.q (q_mv rfl) ?_
        refine Ops.to rfl ?_
        refine Cd.block ?_
        refine Cd.lp (σ := Nat × Option Addr × Nat × Option Addr × Nat) (fun s => s.1 ≤ ts.length) (fun s => [(0, .slice ta ts.length tc), (1, .int .u16 th), (2, .int .u8 mi), (3, .slice ia es.length ic), (9, .pointer (some ⟨b4, 0, none⟩)), (46, .slice ta ts.length tc), (47, .int .i64 (ts.length : Int)), (10, .slice s.2.2.2.1 ((mksL (ts.take s.1)).length) s.2.2.2.2), (48, .int .i64 (s.1 : Int))]) (fun s => [row s.2.1 s.2.2.1 70 3 s.1 (((ts.take s.1).map mkT).flatMap eTap), row s.2.2.2.1 s.2.2.2.2 76 2 ((mksL (ts.take s.1)).length) ((mksL (ts.take s.1)).flatMap eMark), blk b4 67 [.slice s.2.1 s.1 s.2.2.1]]) (fun s => ts.length - s.1) (0, none, 0, none, 0) (Nat.zero_le _) ⟨rfl, rfl, rfl, rfl, rfl, rfl, rfl, rfl, rfl, trivial⟩ (fun _ hs => by have h1 := (((hs.pull .here)).nilRow 76 2).nilRow 70 3; exact h1) ?_
        rintro ⟨k, la, lc, ga, gc⟩ hI
        dsimp only at hI
        change Cd _ _ _ _ _ _ _ [(0, .slice ta ts.length tc), (1, .int .u16 th), (2, .int .u8 mi), (3, .slice ia es.length ic), (9, .pointer (some ⟨b4, 0, none⟩)), (46, .slice ta ts.length tc), (47, .int .i64 (ts.length : Int)), (10, .slice ga ((mksL (ts.take k)).length) gc), (48, .int .i64 (k : Int))] ([row la lc 70 3 k (((ts.take k).map mkT).flatMap eTap), row ga gc 76 2 ((mksL (ts.take k)).length) ((mksL (ts.take k)).flatMap eMark), blk b4 67 [.slice la k lc]])
        refine Cd.seq ?_
        refine Cd.region ?_
        by_cases hk : (k : Int) < (ts.length : Int)
        · refine Ops.q (q_cmp rfl rfl (c_lt hk)) ?_
          obtain ⟨x5, hx6⟩ : ∃ x, ts[k]? = some x := ⟨_, List.getElem?_eq_getElem (by omega)⟩
          obtain ⟨ab7, ao8, rfl⟩ := RoL.pos hT eTap_len hx6
          have huinp := uW_0 x5.inp
          have huwt := uW_0 x5.wt
          have hudl := uW_0 x5.dl
          have hml := mksL_len ts (show k ≤ ts.length by omega)
          refine Ops.to rfl ?_
          refine Cd.seq ?_
          refine Cd.cond_t rfl ?_
          refine Cd.skipTo rfl ?_
          refine Cd.seq ?_
          refine Cd.block ?_
          refine Cd.seq ?_
          refine Cd.region ?_
          refine Ops.q (q_ix (k := k) esz_67 rfl rfl (by omega)) ?_
          refine Ops.q (q_ldRN [.int .i64 x5.inp, .int .i64 x5.wt, .int .i64 x5.dl] isA_70 sz_70 rfl (fun j u hu => hT.at eTap_len hx6 hu)) ?_
          refine Ops.alc [.int .i64 0, .int .i64 0, .int .i64 0] zc_70 ?_
          intro b9
          refine Ops.stB [.int .i64 x5.inp, .int .i64 x5.wt, .int .i64 x5.dl] [.int .i64 x5.inp, .int .i64 x5.wt, .int .i64 x5.dl] sz_70 rfl rfl rfl (one rfl) .here rfl rfl ?_
          refine Ops.to rfl ?_
          refine Cd.seq ?_
          refine Cd.region ?_
          refine Ops.q (q_fa fo_70_0 rfl) ?_
          refine Ops.q (q_ldB isA_3 rfl .here rfl) ?_
          refine Ops.q (q_conv iK_3 iK_83 rfl (rfl)) ?_
          refine Ops.q (q_ar (v := uW x5.inp % 8) rfl rfl (a_remU (uW_0 _) (by omega))) ?_
          refine Ops.q (q_conv iK_83 iK_3 rfl (IntWalk.i64_in _ (by omega))) ?_
          refine Ops.q (q_fa fo_70_1 rfl) ?_
          refine Ops.q (q_ldB isA_3 rfl .here rfl) ?_
          refine Ops.q (q_conv iK_3 iK_83 rfl (rfl)) ?_
          refine Ops.q (q_ar (v := uW x5.wt % 300) rfl rfl (a_remU (uW_0 _) (by omega))) ?_
          refine Ops.q (q_conv iK_83 iK_3 rfl (IntWalk.i64_in _ (by omega))) ?_
          refine Ops.q (q_fa fo_70_2 rfl) ?_
          refine Ops.q (q_ldB isA_3 rfl .here rfl) ?_
          refine Ops.q (q_conv iK_3 iK_83 rfl (rfl)) ?_
          refine Ops.q (q_ar (v := uW x5.dl % 16) rfl rfl (a_remU (uW_0 _) (by omega))) ?_
          refine Ops.q (q_conv iK_83 iK_3 rfl (IntWalk.i64_in _ (by omega))) ?_
          refine Ops.q (q_ar rfl rfl (a_add (by omega))) ?_
          refine Ops.q (q_bld [.int .i64 (uW x5.inp % 8), .int .i64 (uW x5.wt % 300), .int .i64 (1 + (uW x5.dl % 16))] pls_70 zc_70 rfl rfl) ?_
          refine Ops.alc [.int .i64 0, .int .i64 0, .int .i64 0] zc_70 ?_
          intro b10
          refine Ops.stB [.int .i64 (uW x5.inp % 8), .int .i64 (uW x5.wt % 300), .int .i64 (1 + (uW x5.dl % 16))] [.int .i64 (uW x5.inp % 8), .int .i64 (uW x5.wt % 300), .int .i64 (1 + (uW x5.dl % 16))] sz_70 rfl rfl rfl (one rfl) .here rfl rfl ?_
          refine Ops.to rfl ?_
          refine Cd.seq ?_
          refine Cd.region ?_
          refine Ops.q (q_ldB isA_67 rfl (.there (.there (.there (.there .here)))) rfl) ?_
          refine Ops.q (q_ldBN [.int .i64 (uW x5.inp % 8), .int .i64 (uW x5.wt % 300), .int .i64 (1 + (uW x5.dl % 16))] isA_70 sz_70 rfl .here rfl) ?_
          refine Ops.lit [.int .i64 (uW x5.inp % 8), .int .i64 (uW x5.wt % 300), .int .i64 (1 + (uW x5.dl % 16))] el_67 zsb_70 rfl rfl ⟨by decide, by decide⟩ rfl ?_
          intro b11
          refine Ops.app (news := [.int .i64 (uW x5.inp % 8), .int .i64 (uW x5.wt % 300), .int .i64 (1 + (uW x5.dl % 16))]) el_67 zsb_70 (by decide) rfl rfl (fun _ hs => hs.ownRo .here) (fun _ hs => (hs.pull .here).drop) (fun _ _ => (.there (.there .here))) rfl (one rfl) (by omega) (by omega) ?_
          intro a12 c13
          refine Ops.stB [.slice a12 (k + 1) c13] [.slice a12 (k + 1) c13] sz_67 rfl rfl rfl (one rfl) (.there (.there (.there (.there .here)))) rfl rfl ?_
          refine Ops.to rfl ?_
          refine Cd.seq ?_
          refine Cd.region ?_
          refine Ops.q (q_fa fo_70_0 rfl) ?_
          refine Ops.q (q_ldB isA_3 rfl .here rfl) ?_
          refine Ops.q (q_fa fo_70_2 rfl) ?_
          refine Ops.q (q_ldB isA_3 rfl .here rfl) ?_
          refine Ops.q (q_ar rfl rfl (a_sub (by omega))) ?_
          refine Ops.q (q_bld [.int .i64 (uW x5.inp % 8), .int .i64 (16 - (1 + (uW x5.dl % 16)))] pls_76 zc_76 rfl rfl) ?_
          refine Ops.alc [.int .i64 0, .int .i64 0] zc_76 ?_
          intro b14
          refine Ops.stB [.int .i64 (uW x5.inp % 8), .int .i64 (16 - (1 + (uW x5.dl % 16)))] [.int .i64 (uW x5.inp % 8), .int .i64 (16 - (1 + (uW x5.dl % 16)))] sz_76 rfl rfl rfl (one rfl) .here rfl rfl ?_
          refine Ops.to rfl ?_
          refine Cd.seq ?_
          refine Cd.region ?_
          refine Ops.q (q_asg rfl) ?_
          refine Ops.to rfl ?_
          refine Cd.seq ?_
          refine Cd.seq ?_
          refine Cd.region ?_
          refine Ops.q (q_mv rfl) ?_
          refine Ops.q (q_len esz_73 rfl) ?_
          refine Ops.q (q_mv rfl) ?_
          refine Ops.to rfl ?_
          refine Cd.block ?_
          refine Cd.lp (σ := Nat × Bool) (fun s => s.1 ≤ (mksL (ts.take k)).length ∧ s.2 = decide (mkM x5 ∈ (mksL (ts.take k)).take s.1)) (fun s => [(0, .slice (some ⟨ab7, ao8, none⟩) ts.length tc), (1, .int .u16 th), (2, .int .u8 mi), (3, .slice ia es.length ic), (9, .pointer (some ⟨b4, 0, none⟩)), (10, .slice ga ((mksL (ts.take k)).length) gc), (14, .pointer (some ⟨b14, 0, none⟩)), (46, .slice (some ⟨ab7, ao8, none⟩) ts.length tc), (47, .int .i64 (ts.length : Int)), (48, .int .i64 (k : Int)), (79, .slice ga ((mksL (ts.take k)).length) gc), (80, .int .i64 ((mksL (ts.take k)).length : Int)), (15, .bool s.2), (81, .int .i64 (s.1 : Int))]) (fun s => [row a12 c13 70 3 (k + 1) ((((ts.take k).map mkT).flatMap eTap) ++ [.int .i64 (uW x5.inp % 8), .int .i64 (uW x5.wt % 300), .int .i64 (1 + (uW x5.dl % 16))]), row ga gc 76 2 ((mksL (ts.take k)).length) ((mksL (ts.take k)).flatMap eMark), blk b4 67 [.slice a12 (k + 1) c13], blk b14 76 [.int .i64 (uW x5.inp % 8), .int .i64 (16 - (1 + (uW x5.dl % 16)))]]) (fun s => (mksL (ts.take k)).length - s.1) (0, false) ⟨Nat.zero_le _, rfl⟩ ⟨rfl, rfl, rfl, rfl, rfl, rfl, rfl, rfl, rfl, rfl, rfl, rfl, rfl, rfl, trivial⟩ (fun _ hs => ((((((hs.pull .here).pull (.there (.there (.there (.there (.there .here)))))).pull (.there (.there (.there (.there (.there .here)))))).pull (.there (.there (.there (.there (.there .here)))))).pull (.there (.there (.there (.there .here))))).drop.pull (.there (.there (.there (.there .here))))).drop) ?_
          rintro ⟨j, b⟩ hI
          dsimp only at hI
          change Cd _ _ _ _ _ _ _ [(0, .slice (some ⟨ab7, ao8, none⟩) ts.length tc), (1, .int .u16 th), (2, .int .u8 mi), (3, .slice ia es.length ic), (9, .pointer (some ⟨b4, 0, none⟩)), (10, .slice ga ((mksL (ts.take k)).length) gc), (14, .pointer (some ⟨b14, 0, none⟩)), (46, .slice (some ⟨ab7, ao8, none⟩) ts.length tc), (47, .int .i64 (ts.length : Int)), (48, .int .i64 (k : Int)), (79, .slice ga ((mksL (ts.take k)).length) gc), (80, .int .i64 ((mksL (ts.take k)).length : Int)), (15, .bool b), (81, .int .i64 (j : Int))] ([row a12 c13 70 3 (k + 1) ((((ts.take k).map mkT).flatMap eTap) ++ [.int .i64 (uW x5.inp % 8), .int .i64 (uW x5.wt % 300), .int .i64 (1 + (uW x5.dl % 16))]), row ga gc 76 2 ((mksL (ts.take k)).length) ((mksL (ts.take k)).flatMap eMark), blk b4 67 [.slice a12 (k + 1) c13], blk b14 76 [.int .i64 (uW x5.inp % 8), .int .i64 (16 - (1 + (uW x5.dl % 16)))]])
          have hI1 := hI.1
          refine Cd.seq ?_
          refine Cd.region ?_
          by_cases hj : (j : Int) < ((mksL (ts.take k)).length : Int)
          · refine Ops.q (q_cmp rfl rfl (c_lt hj)) ?_
            obtain ⟨x15, hx16⟩ : ∃ x, (mksL (ts.take k))[j]? = some x := ⟨_, List.getElem?_eq_getElem (by omega)⟩
            refine Ops.rowpos (.there .here) (by omega) ?_
            rintro rb17 rfl
            refine Ops.to rfl ?_
            refine Cd.seq ?_
            refine Cd.cond_t rfl ?_
            refine Cd.skipTo rfl ?_
            refine Cd.seq ?_
            refine Cd.block ?_
            refine Cd.seq ?_
            refine Cd.region ?_
            refine Ops.q (q_ix (k := j) esz_73 rfl rfl (by omega)) ?_
            refine Ops.q (q_ldON [.int .i64 x15.inp, .int .i64 x15.off] isA_76 sz_76 rfl (.there .here) (fm_atN eMark_len hx16)) ?_
            refine Ops.alc [.int .i64 0, .int .i64 0] zc_76 ?_
            intro b18
            refine Ops.stB [.int .i64 x15.inp, .int .i64 x15.off] [.int .i64 x15.inp, .int .i64 x15.off] sz_76 rfl rfl rfl (one rfl) .here rfl rfl ?_
            refine Ops.to rfl ?_
            by_cases hb19 : b = true
            · obtain rfl : b = true := by simpa using hb19
              refine Cd.region ?_
              refine Ops.q (q_mv rfl) ?_
              refine Ops.q (q_mv rfl) ?_
              refine Ops.sk ?_
              refine Ops.sk ?_
              refine Ops.sk ?_
              refine Ops.q (q_pickT rfl rfl) ?_
              refine Ops.q (q_asg rfl) ?_
              refine Ops.to rfl ?_
              refine Cd.region ?_
              refine Ops.q (q_ar rfl rfl (a_inc (by omega))) ?_
              refine Ops.q (q_mv rfl) ?_
              refine Ops.rnd ((j + 1, true)) rfl (by dsimp only; exact (⟨by omega, by rw [again_step hx16, ← hI.2]; simp_all⟩)) (by dsimp only; omega) ⟨rfl, rfl, rfl, rfl, rfl, rfl, rfl, rfl, rfl, rfl, rfl, rfl, rfl, rfl, trivial⟩ (fun _ hs => (((((hs.pull (.there (.there (.there (.there .here))))).pull (.there (.there (.there (.there .here))))).pull (.there (.there (.there (.there .here))))).pull (.there (.there (.there (.there .here))))).pull (.there (.there (.there (.there .here))))).drop) 
            · obtain rfl : b = false := by simpa using hb19
              refine Cd.region ?_
              refine Ops.q (q_mv rfl) ?_
              refine Ops.q (q_mv rfl) ?_
              refine Ops.q (q_ldBN [.int .i64 x15.inp, .int .i64 x15.off] isA_76 sz_76 rfl .here rfl) ?_
              refine Ops.q (q_ldBN [.int .i64 (uW x5.inp % 8), .int .i64 (16 - (1 + (uW x5.dl % 16)))] isA_76 sz_76 rfl (.there (.there (.there (.there .here)))) rfl) ?_
              by_cases hzm : x15 = mkM x5
              · refine Ops.q (q_eqT [x15.inp, x15.off] [uW x5.inp % 8, 16 - (1 + uW x5.dl % 16)] intS_76 rfl rfl rfl rfl rfl (by rw [hzm]; rfl)) ?_
                refine Ops.q (q_pickF rfl rfl) ?_
                refine Ops.q (q_asg rfl) ?_
                refine Ops.to rfl ?_
                refine Cd.region ?_
                refine Ops.q (q_ar rfl rfl (a_inc (by omega))) ?_
                refine Ops.q (q_mv rfl) ?_
                refine Ops.rnd ((j + 1, true)) rfl (by dsimp only; exact (⟨by omega, by rw [again_step hx16, ← hI.2]; simp_all⟩)) (by dsimp only; omega) ⟨rfl, rfl, rfl, rfl, rfl, rfl, rfl, rfl, rfl, rfl, rfl, rfl, rfl, rfl, trivial⟩ (fun _ hs => (((((hs.pull (.there (.there (.there (.there .here))))).pull (.there (.there (.there (.there .here))))).pull (.there (.there (.there (.there .here))))).pull (.there (.there (.there (.there .here))))).pull (.there (.there (.there (.there .here))))).drop) 
              · refine Ops.q (q_eqF [x15.inp, x15.off] [uW x5.inp % 8, 16 - (1 + uW x5.dl % 16)] intS_76 rfl rfl rfl rfl rfl (fun e => hzm (mk_eq e))) ?_
                refine Ops.q (q_pickF rfl rfl) ?_
                refine Ops.q (q_asg rfl) ?_
                refine Ops.to rfl ?_
                refine Cd.region ?_
                refine Ops.q (q_ar rfl rfl (a_inc (by omega))) ?_
                refine Ops.q (q_mv rfl) ?_
                refine Ops.rnd ((j + 1, false)) rfl (by dsimp only; exact (⟨by omega, by rw [again_step hx16, ← hI.2]; simp_all⟩)) (by dsimp only; omega) ⟨rfl, rfl, rfl, rfl, rfl, rfl, rfl, rfl, rfl, rfl, rfl, rfl, rfl, rfl, trivial⟩ (fun _ hs => (((((hs.pull (.there (.there (.there (.there .here))))).pull (.there (.there (.there (.there .here))))).pull (.there (.there (.there (.there .here))))).pull (.there (.there (.there (.there .here))))).pull (.there (.there (.there (.there .here))))).drop) 
          · refine Ops.q (q_cmp rfl rfl (c_nlt (by omega))) ?_
            have hb2 : b = decide (mkM x5 ∈ (mksL (ts.take k))) := by rw [hI.2, List.take_of_length_le (show (mksL (ts.take k)).length ≤ j by omega)]
            refine Ops.to rfl ?_
            refine Cd.seq ?_
            refine Cd.cond_f rfl ?_
            refine Cd.exitTo rfl ?_
            refine Cd.seq ?_
            by_cases hb20 : b = true
            · obtain rfl : b = true := by simpa using hb20
              have hbn : mkM x5 ∈ (mksL (ts.take k)) := by simpa using hb2
              refine Cd.region ?_
              refine Ops.q (q_mv rfl) ?_
              refine Ops.q (q_not rfl) ?_
              refine Ops.to rfl ?_
              refine Cd.cond_f rfl ?_
              refine Cd.skipTo rfl ?_
              refine Cd.region ?_
              refine Ops.q (q_ar rfl rfl (a_inc (by omega))) ?_
              refine Ops.q (q_mv rfl) ?_
              refine Ops.rnd ((k + 1, a12, c13, ga, gc)) rfl (by dsimp only; exact (by omega)) (by dsimp only; omega) ⟨rfl, rfl, rfl, rfl, rfl, rfl, rfl, (by (try dsimp only); rw [mksL_in hx6 hbn]; rfl), rfl, trivial⟩ (fun _ hs => by have h1 := ((((hs.pull (.there (.there .here))).pull (.there (.there .here))).pull (.there (.there .here))).pull (.there (.there (.there .here)))).drop; (try dsimp only); rw [mksL_in hx6 hbn, List.take_add_one, hx6, List.map_append, fm_app]; exact h1) 
            · obtain rfl : b = false := by simpa using hb20
              have hbn : ¬ mkM x5 ∈ (mksL (ts.take k)) := by simpa using hb2
              refine Cd.region ?_
              refine Ops.q (q_mv rfl) ?_
              refine Ops.q (q_not rfl) ?_
              refine Ops.to rfl ?_
              refine Cd.cond_t rfl ?_
              refine Cd.region ?_
              refine Ops.q (q_mv rfl) ?_
              refine Ops.q (q_ldBN [.int .i64 (uW x5.inp % 8), .int .i64 (16 - (1 + (uW x5.dl % 16)))] isA_76 sz_76 rfl (.there (.there (.there .here))) rfl) ?_
              refine Ops.lit [.int .i64 (uW x5.inp % 8), .int .i64 (16 - (1 + (uW x5.dl % 16)))] el_73 zsb_76 rfl rfl ⟨by decide, by decide⟩ rfl ?_
              intro b21
              refine Ops.app (news := [.int .i64 (uW x5.inp % 8), .int .i64 (16 - (1 + (uW x5.dl % 16)))]) el_73 zsb_76 (by decide) rfl rfl (fun _ hs => hs.ownRo .here) (fun _ hs => (hs.pull .here).drop) (fun _ _ => (.there .here)) rfl (one rfl) (by omega) (by omega) ?_
              intro a22 c23
              refine Ops.q (q_asg rfl) ?_
              refine Ops.to rfl ?_
              refine Cd.region ?_
              refine Ops.q (q_ar rfl rfl (a_inc (by omega))) ?_
              refine Ops.q (q_mv rfl) ?_
              refine Ops.rnd ((k + 1, a12, c13, a22, c23)) rfl (by dsimp only; exact (by omega)) (by dsimp only; omega) ⟨rfl, rfl, rfl, rfl, rfl, rfl, rfl, (by (try dsimp only); rw [mksL_out hx6 hbn, List.length_append]; rfl), rfl, trivial⟩ (fun _ hs => by have h1 := ((((hs.pull (.there (.there .here))).pull (.there (.there .here))).pull (.there (.there .here))).pull (.there (.there (.there .here)))).drop; (try dsimp only); rw [mksL_out hx6 hbn, List.take_add_one, hx6, List.map_append, fm_app, List.length_append, fm_app]; exact h1) 
        · refine Ops.q (q_cmp rfl rfl (c_nlt (by omega))) ?_
          have hk9 : k = ts.length := by omega
          rw [hk9, List.take_length]
          obtain ⟨l, hlE⟩ : ∃ l, l = ts.map mkT := ⟨_, rfl⟩
          obtain ⟨ms, hmE⟩ : ∃ ms, ms = mksL ts := ⟨_, rfl⟩
          have hll : ts.length = l.length := by rw [hlE, List.length_map]
          rw [← hlE, ← hmE, hll]
          have hTO : TOK l := by rw [hlE]; exact mkT_ok (by omega)
          have hMO : MOK ms := by rw [hmE]; exact mksL_ok (by omega)
          have hml := hMO.l
          refine Ops.to rfl ?_
          refine Cd.seq ?_
          refine Cd.cond_f rfl ?_
          refine Cd.exitTo rfl ?_
          refine Cd.seq ?_
          refine Cd.region ?_
          refine Ops.alc [.slice none 0 0] zc_27 ?_
          intro b24
          refine Ops.to rfl ?_
          refine Cd.seq ?_
          refine Cd.region ?_
          refine Ops.mkmS ?_
          intro mb
          refine Ops.q (q_asg rfl) ?_
          refine Ops.to rfl ?_
          refine Cd.seq ?_
          refine Cd.seq ?_
          refine Cd.region ?_
          obtain ⟨E, hEE⟩ : ∃ E, E = es.map nE := ⟨_, rfl⟩
          have hEO : EOK E := by rw [hEE]; exact nE_ok (by omega)
          have hEl : E.length = es.length := by rw [hEE, List.length_map]
          refine Ops.q (q_mv rfl) ?_
          refine Ops.to rfl ?_
          refine Cd.block ?_
          refine Cd.lp (σ := Nat × Option Addr × Nat) (fun s => s.1 ≤ 40) (fun s => [(0, .slice ta l.length tc), (1, .int .u16 th), (2, .int .u8 mi), (3, .slice ia es.length ic), (9, .pointer (some ⟨b4, 0, none⟩)), (10, .slice ga ms.length gc), (18, .pointer (some ⟨b24, 0, none⟩)), (19, .map (some mb)), (100, .int .i64 (s.1 : Int))]) (fun s => [row s.2.1 s.2.2 88 2 ((evF (idlC E) 0 s.1).length) ((evF (idlC E) 0 s.1).flatMap eEvt), blk b24 27 [.slice s.2.1 ((evF (idlC E) 0 s.1).length) s.2.2], smap mb (mpE (evF (idlC E) 0 s.1)), row la lc 70 3 l.length (l.flatMap eTap), row ga gc 76 2 ms.length (ms.flatMap eMark), blk b4 67 [.slice la l.length lc]]) (fun s => 40 - s.1) (0, none, 0) (Nat.zero_le _) ⟨rfl, rfl, rfl, rfl, rfl, rfl, rfl, rfl, rfl, trivial⟩ (fun _ hs => by have h1 := ((((((hs.pull (.there (.there (.there (.there .here))))).pull (.there (.there (.there (.there .here))))).pull (.there (.there (.there (.there .here))))).pull (.there (.there (.there .here)))).pull (.there (.there (.there (.there .here)))))).nilRow 88 2; exact h1) ?_
          rintro ⟨t, ea, ec⟩ hI
          dsimp only at hI
          change Cd _ _ _ _ _ _ _ [(0, .slice ta l.length tc), (1, .int .u16 th), (2, .int .u8 mi), (3, .slice ia es.length ic), (9, .pointer (some ⟨b4, 0, none⟩)), (10, .slice ga ms.length gc), (18, .pointer (some ⟨b24, 0, none⟩)), (19, .map (some mb)), (100, .int .i64 (t : Int))] ([row ea ec 88 2 ((evF (idlC E) 0 t).length) ((evF (idlC E) 0 t).flatMap eEvt), blk b24 27 [.slice ea ((evF (idlC E) 0 t).length) ec], smap mb (mpE (evF (idlC E) 0 t)), row la lc 70 3 l.length (l.flatMap eTap), row ga gc 76 2 ms.length (ms.flatMap eMark), blk b4 67 [.slice la l.length lc]])
          refine Cd.seq ?_
          refine Cd.region ?_
          by_cases ht : (t : Int) < 40
          · refine Ops.q (q_cmp rfl rfl (c_lt ht)) ?_
            refine Ops.to rfl ?_
            refine Cd.seq ?_
            refine Cd.cond_t rfl ?_
            refine Cd.skipTo rfl ?_
            refine Cd.seq ?_
            refine Cd.block ?_
            refine Cd.seq ?_
            refine Cd.region ?_
            refine Ops.q (q_mv rfl) ?_
            refine Ops.q (q_asg rfl) ?_
            refine Ops.to rfl ?_
            refine Cd.seq ?_
            refine Cd.region ?_
            refine Ops.q (q_mv rfl) ?_
            refine Ops.to rfl ?_
            refine Cd.block ?_
            refine Cd.lp (σ := Nat × Option Addr × Nat) (fun s => s.1 ≤ 8) (fun s => [(0, .slice ta l.length tc), (1, .int .u16 th), (2, .int .u8 mi), (3, .slice ia es.length ic), (9, .pointer (some ⟨b4, 0, none⟩)), (10, .slice ga ms.length gc), (18, .pointer (some ⟨b24, 0, none⟩)), (19, .map (some mb)), (20, .int .i64 (t : Int)), (100, .int .i64 (t : Int)), (103, .int .i64 (s.1 : Int))]) (fun s => [row s.2.1 s.2.2 88 2 ((evIJ E t s.1).length) ((evIJ E t s.1).flatMap eEvt), blk b24 27 [.slice s.2.1 ((evIJ E t s.1).length) s.2.2], smap mb (mpE (evIJ E t s.1)), row la lc 70 3 l.length (l.flatMap eTap), row ga gc 76 2 ms.length (ms.flatMap eMark), blk b4 67 [.slice la l.length lc]]) (fun s => 8 - s.1) (0, ea, ec) (Nat.zero_le _) ⟨rfl, rfl, rfl, rfl, rfl, rfl, rfl, rfl, rfl, rfl, rfl, trivial⟩ (fun _ hs => by have h1 := ((((((hs.pull (.there (.there (.there (.there (.there .here)))))).pull (.there (.there (.there (.there (.there .here)))))).pull (.there (.there (.there (.there (.there .here)))))).pull (.there (.there (.there (.there (.there .here)))))).pull (.there (.there (.there (.there (.there .here)))))).pull (.there (.there (.there (.there (.there .here)))))); (try dsimp only); rw [evIJ_0]; exact h1) ?_
            rintro ⟨i, fa, fc⟩ hI
            dsimp only at hI
            change Cd _ _ _ _ _ _ _ [(0, .slice ta l.length tc), (1, .int .u16 th), (2, .int .u8 mi), (3, .slice ia es.length ic), (9, .pointer (some ⟨b4, 0, none⟩)), (10, .slice ga ms.length gc), (18, .pointer (some ⟨b24, 0, none⟩)), (19, .map (some mb)), (20, .int .i64 (t : Int)), (100, .int .i64 (t : Int)), (103, .int .i64 (i : Int))] ([row fa fc 88 2 ((evIJ E t i).length) ((evIJ E t i).flatMap eEvt), blk b24 27 [.slice fa ((evIJ E t i).length) fc], smap mb (mpE (evIJ E t i)), row la lc 70 3 l.length (l.flatMap eTap), row ga gc 76 2 ms.length (ms.flatMap eMark), blk b4 67 [.slice la l.length lc]])
            refine Cd.seq ?_
            refine Cd.region ?_
            by_cases hi : (i : Int) < 8
            · refine Ops.q (q_cmp rfl rfl (c_lt hi)) ?_
              refine Ops.to rfl ?_
              refine Cd.seq ?_
              refine Cd.cond_t rfl ?_
              refine Cd.skipTo rfl ?_
              refine Cd.seq ?_
              refine Cd.block ?_
              refine Cd.seq ?_
              refine Cd.region ?_
              refine Ops.q (q_mv rfl) ?_
              refine Ops.q (q_asg rfl) ?_
              refine Ops.to rfl ?_
              refine Cd.seq ?_
              refine Cd.region ?_
              refine Ops.q (q_mv rfl) ?_
              refine Ops.q (q_len esz_27 rfl) ?_
              refine Ops.q (q_mv rfl) ?_
              refine Ops.to rfl ?_
              refine Cd.block ?_
              refine Cd.lp (σ := Nat × Option Addr × Nat) (fun s => s.1 ≤ es.length) (fun s => [(0, .slice ta l.length tc), (1, .int .u16 th), (2, .int .u8 mi), (3, .slice ia es.length ic), (9, .pointer (some ⟨b4, 0, none⟩)), (10, .slice ga ms.length gc), (18, .pointer (some ⟨b24, 0, none⟩)), (19, .map (some mb)), (20, .int .i64 (t : Int)), (100, .int .i64 (t : Int)), (21, .int .i64 (i : Int)), (103, .int .i64 (i : Int)), (106, .slice ia es.length ic), (107, .int .i64 (es.length : Int)), (108, .int .i64 (s.1 : Int))]) (fun s => [row s.2.1 s.2.2 88 2 ((evIJK E t i s.1).length) ((evIJK E t i s.1).flatMap eEvt), blk b24 27 [.slice s.2.1 ((evIJK E t i s.1).length) s.2.2], smap mb (mpE (evIJK E t i s.1)), row la lc 70 3 l.length (l.flatMap eTap), row ga gc 76 2 ms.length (ms.flatMap eMark), blk b4 67 [.slice la l.length lc]]) (fun s => es.length - s.1) (0, fa, fc) (Nat.zero_le _) ⟨rfl, rfl, rfl, rfl, rfl, rfl, rfl, rfl, rfl, rfl, rfl, rfl, rfl, rfl, rfl, trivial⟩ (fun _ hs => by have h1 := ((((((hs.pull (.there (.there (.there (.there (.there .here)))))).pull (.there (.there (.there (.there (.there .here)))))).pull (.there (.there (.there (.there (.there .here)))))).pull (.there (.there (.there (.there (.there .here)))))).pull (.there (.there (.there (.there (.there .here)))))).pull (.there (.there (.there (.there (.there .here)))))); (try dsimp only); rw [evIJK_0]; exact h1) ?_
              rintro ⟨k, ua, uc⟩ hI
              dsimp only at hI
              change Cd _ _ _ _ _ _ _ [(0, .slice ta l.length tc), (1, .int .u16 th), (2, .int .u8 mi), (3, .slice ia es.length ic), (9, .pointer (some ⟨b4, 0, none⟩)), (10, .slice ga ms.length gc), (18, .pointer (some ⟨b24, 0, none⟩)), (19, .map (some mb)), (20, .int .i64 (t : Int)), (100, .int .i64 (t : Int)), (21, .int .i64 (i : Int)), (103, .int .i64 (i : Int)), (106, .slice ia es.length ic), (107, .int .i64 (es.length : Int)), (108, .int .i64 (k : Int))] ([row ua uc 88 2 ((evIJK E t i k).length) ((evIJK E t i k).flatMap eEvt), blk b24 27 [.slice ua ((evIJK E t i k).length) uc], smap mb (mpE (evIJK E t i k)), row la lc 70 3 l.length (l.flatMap eTap), row ga gc 76 2 ms.length (ms.flatMap eMark), blk b4 67 [.slice la l.length lc]])
              refine Cd.seq ?_
              refine Cd.region ?_
              by_cases hk : (k : Int) < (es.length : Int)
              · refine Ops.q (q_cmp rfl rfl (c_lt hk)) ?_
                obtain ⟨x25, hx26⟩ : ∃ x, es[k]? = some x := ⟨_, List.getElem?_eq_getElem (by omega)⟩
                obtain ⟨ab27, ao28, rfl⟩ := RoL.pos hE eEvt_len hx26
                have hutick := uW_0 x25.tick
                have huid := uW_0 x25.id
                have hEk : E[k]? = some (nE x25) := by rw [hEE, List.getElem?_map, hx26]; rfl
                have hvl := evIJK_len E t i k
                refine Ops.to rfl ?_
                refine Cd.seq ?_
                refine Cd.cond_t rfl ?_
                refine Cd.skipTo rfl ?_
                refine Cd.seq ?_
                refine Cd.block ?_
                refine Cd.seq ?_
                refine Cd.region ?_
                refine Ops.q (q_ix (k := k) esz_27 rfl rfl (by omega)) ?_
                refine Ops.q (q_ldRN [.int .i64 x25.tick, .int .i64 x25.id] isA_88 sz_88 rfl (fun j u hu => hE.at eEvt_len hx26 hu)) ?_
                refine Ops.alc [.int .i64 0, .int .i64 0] zc_88 ?_
                intro b29
                refine Ops.stB [.int .i64 x25.tick, .int .i64 x25.id] [.int .i64 x25.tick, .int .i64 x25.id] sz_88 rfl rfl rfl (one rfl) .here rfl rfl ?_
                refine Ops.to rfl ?_
                refine Cd.seq ?_
                refine Cd.region ?_
                refine Ops.q (q_fa fo_88_0 rfl) ?_
                refine Ops.q (q_ldB isA_3 rfl .here rfl) ?_
                refine Ops.q (q_conv iK_3 iK_83 rfl (rfl)) ?_
                refine Ops.q (q_ar (v := uW x25.tick % 40) rfl rfl (a_remU (uW_0 _) (by omega))) ?_
                refine Ops.q (q_conv iK_83 iK_3 rfl (IntWalk.i64_in _ (by omega))) ?_
                refine Ops.q (q_fa fo_88_1 rfl) ?_
                refine Ops.q (q_ldB isA_3 rfl .here rfl) ?_
                refine Ops.q (q_conv iK_3 iK_83 rfl (rfl)) ?_
                refine Ops.q (q_ar (v := uW x25.id % 8) rfl rfl (a_remU (uW_0 _) (by omega))) ?_
                refine Ops.q (q_conv iK_83 iK_3 rfl (IntWalk.i64_in _ (by omega))) ?_
                refine Ops.cp en_39 rfl (fun w hs => at_c (uW x25.tick % 40) (uW x25.id % 8) w) ?_
                refine Ops.alc [.int .i64 0, .int .i64 0] zc_88 ?_
                intro b30
                refine Ops.stB [.int .i64 (uW x25.tick % 40), .int .i64 (uW x25.id % 8)] [.int .i64 (uW x25.tick % 40), .int .i64 (uW x25.id % 8)] sz_88 rfl rfl rfl (one rfl) .here rfl rfl ?_
                refine Ops.to rfl ?_
                refine Cd.seq ?_
                refine Cd.draw rfl (by kernel_rfl) (.cons .here (.cons (.there (.there (.there .here))) .nil)) ?_
                intro F31 St32 hP33 hF34 hR35
                refine Dr.q (i := 0) hP33 rfl (by kernel_rfl) (q_ldBN [.int .i64 (uW x25.tick % 40), .int .i64 (uW x25.id % 8)] isA_88 sz_88 rfl .here rfl) ?_
                refine Dr.q (i := 1) hP33 rfl (by kernel_rfl) (q_mv rfl) ?_
                refine Dr.q (i := 2) hP33 rfl (by kernel_rfl) (q_mv rfl) ?_
                refine Dr.e (i := 3) rfl (by kernel_rfl) ?_
                refine Ops.cp en_39 rfl (fun w hs => at_c (t : Int) (i : Int) w) ?_
                refine Dr.back (fun _ hs => hF34 .here hs) ?_
                by_cases hyt : nE x25 = ⟨(t : Int), (i : Int)⟩
                · refine Dr.q (i := 4) hP33 rfl (by kernel_rfl) (q_eqT [uW x25.tick % 40, uW x25.id % 8] [(t : Int), (i : Int)] intS_88 rfl rfl rfl rfl rfl (by have h9 := congrArg (fun e : Evt => [e.tick, e.id]) hyt; exact h9)) ?_
                  refine Dr.q (i := 5) hP33 rfl (by kernel_rfl) (q_mv rfl) ?_
                  refine Dr.q (i := 6) hP33 rfl (by kernel_rfl) (q_mv rfl) ?_
                  refine Dr.q (i := 7) hP33 rfl (by kernel_rfl) (q_ldBN [.int .i64 (uW x25.tick % 40), .int .i64 (uW x25.id % 8)] isA_88 sz_88 rfl .here rfl) ?_
                  by_cases hym : nE x25 ∈ (evIJK E t i k)
                  · refine Dr.q (i := 8) hP33 rfl (by kernel_rfl) (q_lookS (v := .bool true) [uW x25.tick % 40, uW x25.id % 8] mpT_105 intS_88 rfl rfl rfl (fun w hs => hs.roM (.there .here)) (mpE_len _) (fun w => by have h9 := look_mpE (y := nE x25) (V := (evIJK E t i k)) (zero_4 w); rwa [decide_eq_true hym] at h9)) ?_
                    refine Dr.q (i := 9) hP33 rfl (by kernel_rfl) (q_not rfl) ?_
                    refine Dr.q (i := 10) hP33 rfl (by kernel_rfl) (q_pickT rfl rfl) ?_
                    refine Dr.tail 11 (by kernel_rfl) ?_
                    refine Ops.sat ?_ (fun _ hs => hR35 .here hs)
                    refine Ops.to rfl ?_
                    refine Cd.cond_f rfl ?_
                    refine Cd.skipTo rfl ?_
                    refine Cd.region ?_
                    refine Ops.q (q_ar rfl rfl (a_inc (by omega))) ?_
                    refine Ops.q (q_mv rfl) ?_
                    refine Ops.rnd ((k + 1, ua, uc)) rfl (by dsimp only; exact (by omega)) (by dsimp only; omega) ⟨rfl, rfl, rfl, rfl, rfl, rfl, rfl, rfl, rfl, rfl, rfl, rfl, rfl, rfl, rfl, trivial⟩ (fun _ hs => by have h1 := ((((((((hs.pull (.there (.there (.there (.there (.there (.there (.there .here)))))))).pull (.there (.there (.there (.there (.there (.there (.there .here)))))))).pull (.there (.there (.there (.there (.there (.there (.there .here)))))))).pull (.there (.there (.there (.there .here))))).pull (.there (.there (.there (.there (.there (.there (.there .here)))))))).pull (.there (.there (.there (.there (.there (.there (.there .here)))))))).pull (.there (.there (.there (.there (.there (.there .here))))))).drop.pull (.there (.there (.there (.there (.there (.there .here))))))).drop; (try dsimp only); rw [evIJK_old hEk hyt hym]; exact h1) 
                  · refine Dr.q (i := 8) hP33 rfl (by kernel_rfl) (q_lookS (v := .bool false) [uW x25.tick % 40, uW x25.id % 8] mpT_105 intS_88 rfl rfl rfl (fun w hs => hs.roM (.there .here)) (mpE_len _) (fun w => by have h9 := look_mpE (y := nE x25) (V := (evIJK E t i k)) (zero_4 w); rwa [decide_eq_false hym] at h9)) ?_
                    refine Dr.q (i := 9) hP33 rfl (by kernel_rfl) (q_not rfl) ?_
                    refine Dr.q (i := 10) hP33 rfl (by kernel_rfl) (q_pickT rfl rfl) ?_
                    refine Dr.tail 11 (by kernel_rfl) ?_
                    refine Ops.sat ?_ (fun _ hs => hR35 .here hs)
                    refine Ops.to rfl ?_
                    refine Cd.cond_t rfl ?_
                    refine Cd.seq ?_
                    refine Cd.region ?_
                    refine Ops.q (q_mv rfl) ?_
                    refine Ops.q (q_ldBN [.int .i64 (uW x25.tick % 40), .int .i64 (uW x25.id % 8)] isA_88 sz_88 rfl .here rfl) ?_
                    refine Ops.mpuS [uW x25.tick % 40, uW x25.id % 8] mpT_105 intS_88 rfl rfl rfl rfl (mpE_len _) ((find_mpE (nE x25) (evIJK E t i k) 0).2 hym) (.there .here) ?_
                    refine Ops.to rfl ?_
                    refine Cd.region ?_
                    refine Ops.q (q_ldB isA_27 rfl (.there (.there (.there (.there .here)))) rfl) ?_
                    refine Ops.q (q_ldBN [.int .i64 (uW x25.tick % 40), .int .i64 (uW x25.id % 8)] isA_88 sz_88 rfl .here rfl) ?_
                    refine Ops.lit [.int .i64 (uW x25.tick % 40), .int .i64 (uW x25.id % 8)] el_27 zsb_88 rfl rfl ⟨by decide, by decide⟩ rfl ?_
                    intro b36
                    refine Ops.app (news := [.int .i64 (uW x25.tick % 40), .int .i64 (uW x25.id % 8)]) el_27 zsb_88 (by decide) rfl rfl (fun _ hs => hs.ownRo .here) (fun _ hs => (hs.pull .here).drop) (fun _ _ => (.there (.there (.there .here)))) rfl (one rfl) (by omega) (by omega) ?_
                    intro a37 c38
                    refine Ops.stB [.slice a37 (((evIJK E t i k).length) + 1) c38] [.slice a37 (((evIJK E t i k).length) + 1) c38] sz_27 rfl rfl rfl (one rfl) (.there (.there (.there (.there .here)))) rfl rfl ?_
                    refine Ops.to rfl ?_
                    refine Cd.region ?_
                    refine Ops.q (q_ar rfl rfl (a_inc (by omega))) ?_
                    refine Ops.q (q_mv rfl) ?_
                    refine Ops.rnd ((k + 1, a37, c38)) rfl (by dsimp only; exact (by omega)) (by dsimp only; omega) ⟨rfl, rfl, rfl, rfl, rfl, rfl, rfl, rfl, rfl, rfl, rfl, rfl, rfl, rfl, rfl, trivial⟩ (fun _ hs => by have h1 := ((((((((hs.pull (.there (.there (.there (.there (.there (.there (.there .here)))))))).pull (.there (.there (.there (.there (.there (.there (.there .here)))))))).pull (.there (.there (.there (.there (.there (.there (.there .here)))))))).pull (.there (.there (.there (.there .here))))).pull (.there (.there (.there (.there (.there (.there (.there .here)))))))).pull (.there (.there (.there (.there (.there (.there (.there .here)))))))).pull (.there (.there (.there (.there (.there (.there .here))))))).drop.pull (.there (.there (.there (.there (.there (.there .here))))))).drop; (try dsimp only); rw [evIJK_new hEk hyt hym, mpE_app, List.length_append, fm_app]; exact h1) 
                · refine Dr.q (i := 4) hP33 rfl (by kernel_rfl) (q_eqF [uW x25.tick % 40, uW x25.id % 8] [(t : Int), (i : Int)] intS_88 rfl rfl rfl rfl rfl (fun e => hyt (nE_eq e))) ?_
                  refine Dr.q (i := 5) hP33 rfl (by kernel_rfl) (q_mv rfl) ?_
                  refine Dr.sk (i := 6) rfl (by kernel_rfl) ?_
                  refine Dr.sk (i := 7) rfl (by kernel_rfl) ?_
                  refine Dr.sk (i := 8) rfl (by kernel_rfl) ?_
                  refine Dr.sk (i := 9) rfl (by kernel_rfl) ?_
                  refine Dr.q (i := 10) hP33 rfl (by kernel_rfl) (q_pickF rfl rfl) ?_
                  refine Dr.tail 11 (by kernel_rfl) ?_
                  refine Ops.sat ?_ (fun _ hs => hR35 .here hs)
                  refine Ops.to rfl ?_
                  refine Cd.cond_f rfl ?_
                  refine Cd.skipTo rfl ?_
                  refine Cd.region ?_
                  refine Ops.q (q_ar rfl rfl (a_inc (by omega))) ?_
                  refine Ops.q (q_mv rfl) ?_
                  refine Ops.rnd ((k + 1, ua, uc)) rfl (by dsimp only; exact (by omega)) (by dsimp only; omega) ⟨rfl, rfl, rfl, rfl, rfl, rfl, rfl, rfl, rfl, rfl, rfl, rfl, rfl, rfl, rfl, trivial⟩ (fun _ hs => by have h1 := ((((((((hs.pull (.there (.there (.there (.there (.there (.there (.there .here)))))))).pull (.there (.there (.there (.there (.there (.there (.there .here)))))))).pull (.there (.there (.there (.there (.there (.there (.there .here)))))))).pull (.there (.there (.there (.there .here))))).pull (.there (.there (.there (.there (.there (.there (.there .here)))))))).pull (.there (.there (.there (.there (.there (.there (.there .here)))))))).pull (.there (.there (.there (.there (.there (.there .here))))))).drop.pull (.there (.there (.there (.there (.there (.there .here))))))).drop; (try dsimp only); rw [evIJK_other hEk hyt]; exact h1) 
              · refine Ops.q (q_cmp rfl rfl (c_nlt (by omega))) ?_
                refine Ops.to rfl ?_
                refine Cd.seq ?_
                refine Cd.cond_f rfl ?_
                refine Cd.exitTo rfl ?_
                refine Cd.region ?_
                refine Ops.q (q_ar rfl rfl (a_inc (by omega))) ?_
                refine Ops.q (q_mv rfl) ?_
                refine Ops.rnd ((i + 1, ua, uc)) rfl (by dsimp only; exact (by omega)) (by dsimp only; omega) ⟨rfl, rfl, rfl, rfl, rfl, rfl, rfl, rfl, rfl, rfl, rfl, trivial⟩ (fun _ hs => by have h1 := ((((((hs.pull (.there (.there (.there (.there (.there .here)))))).pull (.there (.there (.there (.there (.there .here)))))).pull (.there (.there (.there (.there (.there .here)))))).pull (.there (.there (.there (.there (.there .here)))))).pull (.there (.there (.there (.there (.there .here)))))).pull (.there (.there (.there (.there (.there .here)))))); (try dsimp only); rw [← evIJK_end (show E.length ≤ k by omega)]; exact h1) 
            · refine Ops.q (q_cmp rfl rfl (c_nlt (by omega))) ?_
              refine Ops.to rfl ?_
              refine Cd.seq ?_
              refine Cd.cond_f rfl ?_
              refine Cd.exitTo rfl ?_
              refine Cd.region ?_
              refine Ops.q (q_ar rfl rfl (a_inc (by omega))) ?_
              refine Ops.q (q_mv rfl) ?_
              refine Ops.rnd ((t + 1, fa, fc)) rfl (by dsimp only; exact (by omega)) (by dsimp only; omega) ⟨rfl, rfl, rfl, rfl, rfl, rfl, rfl, rfl, rfl, trivial⟩ (fun _ hs => by have h1 := ((((((hs.pull (.there (.there (.there (.there (.there .here)))))).pull (.there (.there (.there (.there (.there .here)))))).pull (.there (.there (.there (.there (.there .here)))))).pull (.there (.there (.there (.there (.there .here)))))).pull (.there (.there (.there (.there (.there .here)))))).pull (.there (.there (.there (.there (.there .here)))))); (try dsimp only); rw [show i = 8 from by omega] at h1; rw [← evIJ_8]; exact h1) 
          · refine Ops.q (q_cmp rfl rfl (c_nlt (by omega))) ?_
            have ht9 : t = 40 := by omega
            subst ht9
            have hcl := evC_len hEO
            rw [show evF (idlC E) 0 40 = evC E from rfl]
            refine Ops.to rfl ?_
            refine Cd.seq ?_
            refine Cd.cond_f rfl ?_
            refine Cd.exitTo rfl ?_
            refine Cd.seq ?_
            refine Cd.region ?_
            refine Ops.q (q_mv rfl) ?_
            refine Ops.q (q_conv iK_101 iK_3 rfl (IntWalk.i64_in _ (by omega))) ?_
            refine Ops.q (q_ar (v := th % 1000) rfl rfl (a_rem (by omega) (by decide))) ?_
            refine Ops.q (q_ar rfl rfl (a_add (by omega))) ?_
            refine Ops.q (q_asg rfl) ?_
            refine Ops.to rfl ?_
            refine Cd.seq ?_
            refine Cd.region ?_
            obtain ⟨h, hhE⟩ : ∃ h : Int, 1 + th % 1000 = h := ⟨_, rfl⟩
            rw [hhE]
            have hh : 1 ≤ h ∧ h ≤ 1000 := by omega
            refine Ops.q (q_ldB isA_67 rfl (.there (.there (.there (.there (.there .here))))) rfl) ?_
            refine Ops.q (q_mv rfl) ?_
            refine Ops.cl (α := (Option Addr × Nat) × (Option Addr × Nat)) (v := fun x => .tuple [.agg [.slice x.1.1 (cntN l h).ns.length x.1.2, .int .i64 (cntN l h).inp, .slice x.2.1 (cntN l h).ss.length x.2.2].toArray, .int .i64 0].toArray) (B := fun x => [row x.1.1 x.1.2 116 8 (cntN l h).ns.length ((cntN l h).ns.flatMap ePrm), row x.2.1 x.2.2 126 4 (cntN l h).ss.length ((cntN l h).ss.flatMap eSyn)]) en_30 rfl (fun w hs => retR_ok (count_c _ _ _ l _ w (hs.ownRo (.there (.there (.there .here))))) (countP_ok hTO hh)) ?_
            rintro ⟨⟨p, pc⟩, ⟨ps, psc⟩⟩
            refine Ops.q (q_mv rfl) ?_
            refine Ops.q (q_ext rfl rfl) ?_
            refine Ops.q (q_ext rfl rfl) ?_
            refine Ops.alc [.slice none 0 0, .int .i64 0, .slice none 0 0] zc_32 ?_
            intro b39
            refine Ops.stB [.slice p ((cntN l h).ns.length) pc, .int .i64 ((cntN l h).inp), .slice ps ((cntN l h).ss.length) psc] [.slice p ((cntN l h).ns.length) pc, .int .i64 ((cntN l h).inp), .slice ps ((cntN l h).ss.length) psc] sz_32 rfl rfl rfl (one rfl) .here rfl rfl ?_
            refine Ops.q (q_asg rfl) ?_
            refine Ops.to rfl ?_
            refine Cd.seq ?_
            refine Cd.seq ?_
            refine Cd.region ?_
            refine Ops.q (q_mv rfl) ?_
            refine Ops.q (q_cmp rfl rfl (c_nne (by decide))) ?_
            refine Ops.q (q_mv rfl) ?_
            refine Ops.q (q_ldBN [.slice p ((cntN l h).ns.length) pc, .int .i64 ((cntN l h).inp), .slice ps ((cntN l h).ss.length) psc] isA_32 sz_32 rfl .here rfl) ?_
            refine Ops.cp en_35 rfl (fun w hs => chk0R (check_c _ _ _ _ (cntN l h).ns (cntN l h).inp (cntN l h).ss w (hs.ownRo (.there .here)) (hs.ownRo (.there (.there .here)))) (ctr_net hTO hh)) ?_
            refine Ops.q (q_cmp rfl rfl (c_nne (by decide))) ?_
            refine Ops.q (q_pickF rfl rfl) ?_
            refine Ops.to rfl ?_
            refine Cd.cond_f rfl ?_
            refine Cd.skipTo rfl ?_
            refine Cd.seq ?_
            have hq0 : 0 ≤ 108000 / h := Int.ediv_nonneg (by omega) (by omega)
            have hq1 : 108000 / h ≤ 108000 := Int.ediv_le_self _ (by omega)
            obtain ⟨T, hTE⟩ : ∃ T : Nat, (T : Int) = 60 + 108000 / h := ⟨(60 + 108000 / h).toNat, by omega⟩
            by_cases hTT : T ≤ 10000
            · refine Cd.draw rfl (by kernel_rfl) (.cons .here (.cons (.there (.there (.there .here))) .nil)) ?_
              intro F40 St41 hP42 hF43 hR44
              refine Dr.q (i := 0) hP42 rfl (by kernel_rfl) (q_ldBN [.slice p ((cntN l h).ns.length) pc, .int .i64 ((cntN l h).inp), .slice ps ((cntN l h).ss.length) psc] isA_32 sz_32 rfl .here rfl) ?_
              refine Dr.q (i := 1) hP42 rfl (by kernel_rfl) (q_ldB isA_27 rfl (.there .here) rfl) ?_
              refine Dr.q (i := 2) hP42 rfl (by kernel_rfl) (q_mv rfl) ?_
              refine Dr.q (i := 3) hP42 rfl (by kernel_rfl) (q_ar rfl rfl (a_quo (by omega))) ?_
              refine Dr.q (i := 4) hP42 rfl (by kernel_rfl) (q_ar rfl rfl (a_add (by omega))) ?_
              refine Dr.e (i := 5) rfl (by kernel_rfl) ?_
              refine Ops.cl (α := Option Addr × Nat) (v := fun x => Value.tuple [Value.slice x.1 (cntO E l h T).length x.2, Value.int IntKind.i64 0].toArray) (B := fun x => [row x.1 x.2 88 2 (cntO E l h T).length ((cntO E l h T).flatMap eEvt)]) en_36 rfl (fun w hs => run_some_n _ _ _ _ (cntN l h).ns (cntN l h).inp (cntN l h).ss _ _ (evC E) (evC E).length rfl (60 + 108000 / h) w (hs.ownRo (.there .here)) (hs.ownRo (.there (.there .here))) (hs.ownRo (.there (.there (.there .here)))) (rowle_any hs (.there (.there (.there .here)))) (cntO E l h T) (by rw [← hTE]; exact tap_prep hEO hTO (adder_ok (by omega)) hTT) (by rw [← hTE, Int.toNat_natCast]; exact ctr_runN hEO hTO hh (by omega))) ?_
              rintro ⟨sa, sac⟩
              refine Dr.back (fun _ hs => hF43 (.there .here) hs) ?_
              refine Dr.q (i := 6) hP42 rfl (by kernel_rfl) (q_mv rfl) ?_
              refine Dr.q (i := 7) hP42 rfl (by kernel_rfl) (q_ext rfl rfl) ?_
              refine Dr.q (i := 8) hP42 rfl (by kernel_rfl) (q_ext rfl rfl) ?_
              refine Dr.q (i := 9) hP42 rfl (by kernel_rfl) (q_asg rfl) ?_
              refine Dr.tail 10 (by kernel_rfl) ?_
              refine Ops.sat ?_ (fun _ hs => hR44 (.there .here) hs)
              refine Ops.q (q_asg rfl) ?_
              refine Ops.to rfl ?_
              refine Cd.seq ?_
              refine Cd.seq ?_
              refine Cd.region ?_
              refine Ops.q (q_mv rfl) ?_
              refine Ops.q (q_cmp rfl rfl (c_nne (by decide))) ?_
              refine Ops.q (q_mv rfl) ?_
              refine Ops.sk ?_
              refine Ops.sk ?_
              refine Ops.sk ?_
              refine Ops.sk ?_
              refine Ops.q (q_pickF rfl rfl) ?_
              refine Ops.to rfl ?_
              refine Cd.cond_f rfl ?_
              refine Cd.skipTo rfl ?_
              refine Cd.seq ?_
              refine Cd.seq ?_
              refine Cd.region ?_
              refine Ops.q (q_mv rfl) ?_
              refine Ops.q (q_cmp rfl rfl (c_eq (by decide))) ?_
              refine Ops.to rfl ?_
              refine Cd.cond_t rfl ?_
              refine Cd.seq ?_
              refine Cd.region ?_
              have hCO : EOK (evC E) := ⟨fun y hy => hEO.b y ((evC_mem hEO).1 hy), hcl⟩
              have hc7 := cumC_nn hTO hcl 1000
              have hol := ctr_olen (E := E) (l := l) (h := h) T
              refine Ops.q (q_mkf rfl rfl) ?_
              refine Ops.q (q_asg rfl) ?_
              refine Ops.to rfl ?_
              refine Cd.seq ?_
              refine Cd.seq ?_
              refine Cd.region ?_
              refine Ops.q (q_mv rfl) ?_
              refine Ops.q (q_len esz_27 rfl) ?_
              refine Ops.q (q_mv rfl) ?_
              refine Ops.cv (α := Unit) (k := 43) (first := []) (caps := [.pointer (some ⟨b24, 0, none⟩), .pointer (some ⟨b4, 0, none⟩)]) (vs := [.int .i64 1000]) (v := fun _ => .int .i64 (cumC (evC E) l 1000)) (A' := fun _ => [blk b39 32 [.slice p ((cntN l h).ns.length) pc, .int .i64 ((cntN l h).inp), .slice ps ((cntN l h).ss.length) psc], blk b24 27 [.slice ea ((evC E).length) ec], row sa sac 88 2 ((cntO E l h T).length) ((cntO E l h T).flatMap eEvt), row p pc 116 8 ((cntN l h).ns.length) ((cntN l h).ns.flatMap ePrm), row ps psc 126 4 ((cntN l h).ss.length) ((cntN l h).ss.flatMap eSyn), row ea ec 88 2 ((evC E).length) ((evC E).flatMap eEvt), smap mb (mpE (evC E)), row la lc 70 3 l.length (l.flatMap eTap), row ga gc 76 2 ms.length (ms.flatMap eMark), blk b4 67 [.slice la l.length lc]]) en_43 rfl rfl (fun w hs => (sum_c _ _ _ _ _ _ _ (evC E) l w (Sat.atB (.there .here) rfl hs) (Sat.atB (.there (.there (.there (.there (.there (.there (.there (.there (.there .here))))))))) rfl hs) (hs.ownRo (.there (.there (.there (.there (.there .here)))))) (hs.ownRo (.there (.there (.there (.there (.there (.there (.there .here)))))))) hCO hcl hTO).mono fun e w' h9 => ⟨(), h9.1, hs.over h9.2⟩) ?_
              intro _
              refine Ops.q (q_mv rfl) ?_
              refine Ops.q (q_ar (v := cumC (evC E) l 1000 / h) rfl rfl (a_quo (by omega))) ?_
              refine Ops.q (q_cmp rfl rfl (c_nne (ctr_len hEO hTO hh hTE))) ?_
              refine Ops.to rfl ?_
              refine Cd.cond_f rfl ?_
              refine Cd.skipTo rfl ?_
              refine Cd.seq ?_
              refine Cd.region ?_
              refine Ops.q (q_mv rfl) ?_
              refine Ops.q (q_len esz_27 rfl) ?_
              refine Ops.q (q_mv rfl) ?_
              refine Ops.to rfl ?_
              refine Cd.block ?_
              refine Cd.lp (σ := Nat) (fun k => k ≤ (cntO E l h T).length) (fun k => [(0, .slice ta l.length tc), (1, .int .u16 th), (2, .int .u8 mi), (3, .slice ia es.length ic), (9, .pointer (some ⟨b4, 0, none⟩)), (10, .slice ga ms.length gc), (18, .pointer (some ⟨b24, 0, none⟩)), (19, .map (some mb)), (25, .int .i64 h), (28, .slice sa ((cntO E l h T).length) sac), (29, .func (.func 43) #[] #[.pointer (some ⟨b24, 0, none⟩), .pointer (some ⟨b4, 0, none⟩)]), (187, .slice sa ((cntO E l h T).length) sac), (188, .int .i64 ((cntO E l h T).length : Int)), (189, .int .i64 (k : Int))]) (fun k => [row sa sac 88 2 ((cntO E l h T).length) ((cntO E l h T).flatMap eEvt), row ea ec 88 2 ((evC E).length) ((evC E).flatMap eEvt), blk b24 27 [.slice ea ((evC E).length) ec], smap mb (mpE (evC E)), row la lc 70 3 l.length (l.flatMap eTap), row ga gc 76 2 ms.length (ms.flatMap eMark), blk b4 67 [.slice la l.length lc]]) (fun k => (cntO E l h T).length - k) 0 (Nat.zero_le _) ⟨rfl, rfl, rfl, rfl, rfl, rfl, rfl, rfl, rfl, rfl, rfl, rfl, rfl, rfl, trivial⟩ (fun _ hs => ((((((((((hs.pull (.there (.there (.there (.there (.there (.there (.there (.there (.there .here)))))))))).pull (.there (.there (.there (.there (.there (.there (.there (.there (.there .here)))))))))).pull (.there (.there (.there (.there (.there (.there (.there (.there (.there .here)))))))))).pull (.there (.there (.there (.there (.there (.there (.there (.there (.there .here)))))))))).pull (.there (.there (.there (.there (.there .here)))))).pull (.there (.there (.there (.there (.there (.there (.there (.there (.there .here)))))))))).pull (.there (.there (.there (.there (.there (.there (.there .here)))))))).pull (.there (.there (.there (.there (.there (.there (.there .here)))))))).drop.pull (.there (.there (.there (.there (.there (.there (.there .here)))))))).drop.pull (.there (.there (.there (.there (.there (.there (.there .here)))))))).drop) ?_
              intro k hI
              refine Cd.seq ?_
              refine Cd.region ?_
              by_cases hk : (k : Int) < ((cntO E l h T).length : Int)
              · refine Ops.q (q_cmp rfl rfl (c_lt hk)) ?_
                obtain ⟨x45, hx46⟩ : ∃ x, (cntO E l h T)[k]? = some x := ⟨_, List.getElem?_eq_getElem (by omega)⟩
                refine Ops.rowpos .here (by omega) ?_
                rintro rb47 rfl
                have hca : ((k + 1 : Nat) : Int) * h ≤ cumC (evC E) l x45.tick := by rw [show ((k + 1 : Nat) : Int) = (k : Int) + 1 by omega]; exact ctr_at hEO hTO hh hx46
                have hc8 : 0 ≤ ((k + 1 : Nat) : Int) * h := Int.mul_nonneg (by omega) (by omega)
                have hc9 := cumC_nn hTO hcl x45.tick
                refine Ops.to rfl ?_
                refine Cd.seq ?_
                refine Cd.cond_t rfl ?_
                refine Cd.skipTo rfl ?_
                refine Cd.seq ?_
                refine Cd.block ?_
                refine Cd.seq ?_
                refine Cd.region ?_
                refine Ops.q (q_mv rfl) ?_
                refine Ops.q (q_ix (k := k) esz_27 rfl rfl (by omega)) ?_
                refine Ops.q (q_ldON [.int .i64 x45.tick, .int .i64 x45.id] isA_88 sz_88 rfl .here (fm_atN eEvt_len hx46)) ?_
                refine Ops.alc [.int .i64 0, .int .i64 0] zc_88 ?_
                intro b48
                refine Ops.q (q_asg rfl) ?_
                refine Ops.stB [.int .i64 x45.tick, .int .i64 x45.id] [.int .i64 x45.tick, .int .i64 x45.id] sz_88 rfl rfl rfl (one rfl) .here rfl rfl ?_
                refine Ops.to rfl ?_
                refine Cd.seq ?_
                refine Cd.region ?_
                refine Ops.q (q_mv rfl) ?_
                refine Ops.q (q_ar rfl rfl (a_inc (by omega))) ?_
                refine Ops.q (q_mv rfl) ?_
                refine Ops.q (q_ar (v := ((k + 1 : Nat) : Int) * h) rfl rfl (a_mul (by omega))) ?_
                refine Ops.q (q_mv rfl) ?_
                refine Ops.q (q_fa fo_88_0 rfl) ?_
                refine Ops.q (q_ldB isA_3 rfl .here rfl) ?_
                refine Ops.cv (α := Unit) (k := 43) (first := []) (caps := [.pointer (some ⟨b24, 0, none⟩), .pointer (some ⟨b4, 0, none⟩)]) (vs := [.int .i64 x45.tick]) (v := fun _ => .int .i64 (cumC (evC E) l x45.tick)) (A' := fun _ => [blk b48 88 [.int .i64 x45.tick, .int .i64 x45.id], row (some ⟨rb47, 0, none⟩) sac 88 2 ((cntO E l h T).length) ((cntO E l h T).flatMap eEvt), row ea ec 88 2 ((evC E).length) ((evC E).flatMap eEvt), blk b24 27 [.slice ea ((evC E).length) ec], smap mb (mpE (evC E)), row la lc 70 3 l.length (l.flatMap eTap), row ga gc 76 2 ms.length (ms.flatMap eMark), blk b4 67 [.slice la l.length lc]]) en_43 rfl rfl (fun w hs => (sum_c _ _ _ _ _ _ _ (evC E) l w (Sat.atB (.there (.there (.there .here))) rfl hs) (Sat.atB (.there (.there (.there (.there (.there (.there (.there .here))))))) rfl hs) (hs.ownRo (.there (.there .here))) (hs.ownRo (.there (.there (.there (.there (.there .here)))))) hCO hcl hTO).mono fun e w' h9 => ⟨(), h9.1, hs.over h9.2⟩) ?_
                intro _
                refine Ops.q (q_cmp rfl rfl (c_ngt hca)) ?_
                refine Ops.to rfl ?_
                refine Cd.cond_f rfl ?_
                refine Cd.skipTo rfl ?_
                refine Cd.region ?_
                refine Ops.q (q_ar rfl rfl (a_inc (by omega))) ?_
                refine Ops.q (q_mv rfl) ?_
                refine Ops.rnd (k + 1) rfl (by omega) (by omega) ⟨rfl, rfl, rfl, rfl, rfl, rfl, rfl, rfl, rfl, rfl, rfl, rfl, rfl, rfl, trivial⟩ (fun _ hs => ((((((((hs.pull (.there (.there (.there (.there (.there (.there (.there .here)))))))).pull (.there (.there (.there (.there (.there (.there (.there .here)))))))).pull (.there (.there (.there (.there (.there (.there (.there .here)))))))).pull (.there (.there (.there (.there (.there (.there (.there .here)))))))).pull (.there (.there (.there (.there (.there (.there (.there .here)))))))).pull (.there (.there (.there (.there (.there (.there (.there .here)))))))).pull (.there (.there (.there (.there (.there (.there (.there .here)))))))).pull (.there (.there (.there (.there (.there (.there (.there .here)))))))).drop) 
              · refine Ops.q (q_cmp rfl rfl (c_nlt (by omega))) ?_
                refine Ops.to rfl ?_
                refine Cd.seq ?_
                refine Cd.cond_f rfl ?_
                refine Cd.exitTo rfl ?_
                refine Cd.seq ?_
                refine Cd.draw rfl (by kernel_rfl) (.cons (.there (.there .here)) .nil) ?_
                intro F49 St50 hP51 hF52 hR53
                refine Dr.q (i := 0) hP51 rfl (by kernel_rfl) (q_mv rfl) ?_
                refine Dr.q (i := 1) hP51 rfl (by kernel_rfl) (q_mv rfl) ?_
                refine Dr.q (i := 2) hP51 rfl (by kernel_rfl) (q_conv iK_5 iK_3 rfl (IntWalk.i64_in _ (by omega))) ?_
                refine Dr.q (i := 3) hP51 rfl (by kernel_rfl) (q_mv rfl) ?_
                refine Dr.q (i := 4) hP51 rfl (by kernel_rfl) (q_len esz_73 rfl) ?_
                refine Dr.q (i := 5) hP51 rfl (by kernel_rfl) (q_ar (v := mi % (ms.length : Int)) rfl rfl (a_rem (by omega) (by omega))) ?_
                refine Dr.q (i := 6) hP51 rfl (by kernel_rfl) (q_ldB isA_27 rfl .here rfl) ?_
                refine Dr.q (i := 7) hP51 rfl (by kernel_rfl) (q_mv rfl) ?_
                refine Dr.e (i := 8) rfl (by kernel_rfl) ?_
                refine Ops.cp en_44 rfl (fun w hs => found_c E _ _ ms _ _ _ mb w hEO hMO ⟨Int.emod_nonneg _ (by omega), Int.emod_lt_of_pos _ (by omega)⟩ (hs.ownRo (.there (.there (.there (.there (.there .here)))))) (rowle_any hs (.there (.there (.there (.there (.there .here)))))) (hs.ownRo (.there (.there .here))) (rowle_any hs (.there (.there .here))) (hs.roM (.there (.there (.there .here))))) ?_
                refine Dr.back (fun _ hs => hF52 .here hs) ?_
                refine Dr.q (i := 9) hP51 rfl (by kernel_rfl) (q_mv rfl) ?_
                refine Dr.e (i := 10) rfl (by kernel_rfl) ?_
                refine Ops.cp en_13 rfl (fun w hs => works_c w) ?_
                refine Dr.back (fun _ hs => hF52 .here hs) ?_
                refine Dr.q (i := 11) hP51 rfl (by kernel_rfl) (q_pickT rfl rfl) ?_
                refine Dr.tail 12 (by kernel_rfl) ?_
                refine Ops.sat ?_ (fun _ hs => hR53 .here hs)
                refine Ops.q (q_asg rfl) ?_
                refine Ops.to rfl ?_
                refine Cd.rt (fn := Try.f11) [.bool true] (by with_reducible repeat (first | exact rq_here | apply rq_then | apply rq_block)) rfl ⟨rfl, trivial⟩ ?_
                intro w' hs'
                exact ⟨rfl, hs'.none⟩
            · refine Cd.draw rfl (by kernel_rfl) (.cons .here (.cons (.there (.there (.there .here))) .nil)) ?_
              intro F54 St55 hP56 hF57 hR58
              refine Dr.q (i := 0) hP56 rfl (by kernel_rfl) (q_ldBN [.slice p ((cntN l h).ns.length) pc, .int .i64 ((cntN l h).inp), .slice ps ((cntN l h).ss.length) psc] isA_32 sz_32 rfl .here rfl) ?_
              refine Dr.q (i := 1) hP56 rfl (by kernel_rfl) (q_ldB isA_27 rfl (.there .here) rfl) ?_
              refine Dr.q (i := 2) hP56 rfl (by kernel_rfl) (q_mv rfl) ?_
              refine Dr.q (i := 3) hP56 rfl (by kernel_rfl) (q_ar rfl rfl (a_quo (by omega))) ?_
              refine Dr.q (i := 4) hP56 rfl (by kernel_rfl) (q_ar rfl rfl (a_add (by omega))) ?_
              refine Dr.e (i := 5) rfl (by kernel_rfl) ?_
              have hp3 : preparedE ⟨(cntN l h).ns, (cntN l h).inp, (cntN l h).ss⟩ (evC E) (60 + 108000 / h) 10000 = 3 := by rw [← hTE]; exact tap_prepE hTO (adder_ok (by omega)) (by omega)
              refine Ops.cp en_36 rfl (fun w hs => run_err_c _ _ _ _ (cntN l h).ns (cntN l h).inp (cntN l h).ss _ _ (evC E) (60 + 108000 / h) w (hs.ownRo (.there .here)) (hs.ownRo (.there (.there .here))) (hs.ownRo (.there (.there (.there .here)))) (rowle_any hs (.there (.there (.there .here)))) 3 hp3 (by decide)) ?_
              refine Dr.back (fun _ hs => hF57 .here hs) ?_
              refine Dr.q (i := 6) hP56 rfl (by kernel_rfl) (q_mv rfl) ?_
              refine Dr.q (i := 7) hP56 rfl (by kernel_rfl) (q_ext rfl rfl) ?_
              refine Dr.q (i := 8) hP56 rfl (by kernel_rfl) (q_ext rfl rfl) ?_
              refine Dr.q (i := 9) hP56 rfl (by kernel_rfl) (q_asg rfl) ?_
              refine Dr.tail 10 (by kernel_rfl) ?_
              refine Ops.sat ?_ (fun _ hs => hR58 .here hs)
              refine Ops.q (q_asg rfl) ?_
              refine Ops.to rfl ?_
              refine Cd.seq ?_
              refine Cd.seq ?_
              refine Cd.region ?_
              refine Ops.q (q_mv rfl) ?_
              refine Ops.q (q_cmp rfl rfl (c_ne (by decide))) ?_
              refine Ops.q (q_mv rfl) ?_
              refine Ops.q (q_mv rfl) ?_
              refine Ops.q (q_ar rfl rfl (a_quo (by omega))) ?_
              refine Ops.q (q_ar rfl rfl (a_add (by omega))) ?_
              refine Ops.q (q_cmp rfl rfl (c_nle (by omega))) ?_
              refine Ops.q (q_pickT rfl rfl) ?_
              refine Ops.to rfl ?_
              refine Cd.cond_f rfl ?_
              refine Cd.skipTo rfl ?_
              refine Cd.seq ?_
              refine Cd.seq ?_
              refine Cd.region ?_
              refine Ops.q (q_mv rfl) ?_
              refine Ops.q (q_cmp rfl rfl (c_neq (by decide))) ?_
              refine Ops.to rfl ?_
              refine Cd.cond_f rfl ?_
              refine Cd.skipTo rfl ?_
              refine Cd.seq ?_
              refine Cd.draw rfl (by kernel_rfl) (.cons (.there .here) .nil) ?_
              intro F59 St60 hP61 hF62 hR63
              refine Dr.q (i := 0) hP61 rfl (by kernel_rfl) (q_mv rfl) ?_
              refine Dr.q (i := 1) hP61 rfl (by kernel_rfl) (q_mv rfl) ?_
              refine Dr.q (i := 2) hP61 rfl (by kernel_rfl) (q_conv iK_5 iK_3 rfl (IntWalk.i64_in _ (by omega))) ?_
              refine Dr.q (i := 3) hP61 rfl (by kernel_rfl) (q_mv rfl) ?_
              refine Dr.q (i := 4) hP61 rfl (by kernel_rfl) (q_len esz_73 rfl) ?_
              refine Dr.q (i := 5) hP61 rfl (by kernel_rfl) (q_ar (v := mi % (ms.length : Int)) rfl rfl (a_rem (by omega) (by omega))) ?_
              refine Dr.q (i := 6) hP61 rfl (by kernel_rfl) (q_ldB isA_27 rfl .here rfl) ?_
              refine Dr.q (i := 7) hP61 rfl (by kernel_rfl) (q_mv rfl) ?_
              refine Dr.e (i := 8) rfl (by kernel_rfl) ?_
              refine Ops.cp en_44 rfl (fun w hs => found_c E _ _ ms _ _ _ mb w hEO hMO ⟨Int.emod_nonneg _ (by omega), Int.emod_lt_of_pos _ (by omega)⟩ (hs.ownRo (.there (.there (.there (.there (.there (.there (.there .here)))))))) (rowle_any hs (.there (.there (.there (.there (.there (.there (.there .here)))))))) (hs.ownRo (.there (.there (.there (.there .here))))) (rowle_any hs (.there (.there (.there (.there .here))))) (hs.roM (.there (.there (.there (.there (.there .here))))))) ?_
              refine Dr.back (fun _ hs => hF62 .here hs) ?_
              refine Dr.q (i := 9) hP61 rfl (by kernel_rfl) (q_mv rfl) ?_
              refine Dr.e (i := 10) rfl (by kernel_rfl) ?_
              refine Ops.cp en_13 rfl (fun w hs => works_c w) ?_
              refine Dr.back (fun _ hs => hF62 .here hs) ?_
              refine Dr.q (i := 11) hP61 rfl (by kernel_rfl) (q_pickT rfl rfl) ?_
              refine Dr.tail 12 (by kernel_rfl) ?_
              refine Ops.sat ?_ (fun _ hs => hR63 .here hs)
              refine Ops.q (q_asg rfl) ?_
              refine Ops.to rfl ?_
              refine Cd.rt (fn := Try.f11) [.bool true] (by with_reducible repeat (first | exact rq_here | apply rq_then | apply rq_block)) rfl ⟨rfl, trivial⟩ ?_
              intro w' hs'
              exact ⟨rfl, hs'.none⟩
end Go.Proofs.Ytilcdghliigngaa
