/- Part of a claim: the program logic, the contracts of the functions, their models. No condition. -/
import Derived.WalkKit
import Derived.OwnWalkIn
import Derived.TacticsInMore
import Derived.OrdersIn
import Derived.RangeFuncLeaves
import Derived.RangeFuncNested
import Derived.Maps.AppendAt
import Derived.Shelf.Abstract
import Derived.Test.YtilcdghliigngaaProg
import Derived.MapKept
import Derived.Laws.StructEq
import Derived.Laws.OwnMore
import Derived.RangeFuncRecord
import Derived.Lib.SliceRun
import Derived.Lib.AppendZeros
import Derived.Lib.AppendZerosOnto
import Derived.Lib.Overlaps
import Derived.Laws.Externs
import Derived.Test.YtilcdghliigngaaPf4
namespace Go.Proofs.Ytilcdghliigngaa
open Go.RowKit Go.Proofs.YtilcdghliigngaaGl Go.Proofs.YtilcdghliigngaaPm
set_option linter.unusedVariables false
set_option linter.unusedSimpArgs false
set_option linter.unusedSectionVars false
section
variable {nx : List (List Int)} {st : Int} {acc : List Bool} {ws : List Int} {k : Nat}
def autV (nx : List (List Int)) (st : Int) (acc : List Bool) (ws : List Int) (k : Nat) : Nat → Nat → Int
  | 0, _ => 0
  | t + 1, d => if hN nx.length k d ≤ inX (autSs nx st acc k) (autF nx st acc ws k) (idlA ws k) t d then 0 else inX (autSs nx st acc k) (autF nx st acc ws k) (idlA ws k) t d
def blkA (nx : List (List Int)) (st : Int) (acc : List Bool) (ws : List Int) (k i : Nat) : List Evt :=
  [⟨((3 * i + 1 : Nat) : Int), wantA nx st ws i⟩] ++ ((if i < ws.length then [⟨((3 * i + 2 : Nat) : Int), ((nx.length + (k * (wantA nx st ws i).toNat + (ws.getD i 0).toNat) : Nat) : Int)⟩] else []) ++ (if acc.getD (wantA nx st ws i).toNat false = true then [⟨((3 * i + 2 : Nat) : Int), ((nx.length + nx.length * k : Nat) : Int)⟩] else []))
def outA (nx : List (List Int)) (st : Int) (acc : List Bool) (ws : List Int) (k : Nat) : List Evt := (List.range (ws.length + 1)).flatMap (blkA nx st acc ws k)
def evA (ws : List Int) (k : Nat) : List Evt := insI (evsW ws ws.length) (min 1 ws.length) ⟨0, (k : Int)⟩
namespace AutOK
variable (h : AutOK nx st acc ws k)
include h
theorem fires {t d : Nat} (hd : d < nx.length + nx.length * k + 1) : autF nx st acc ws k t d = decide (hN nx.length k d ≤ inX (autSs nx st acc k) (autF nx st acc ws k) (idlA ws k) t d) := by
  have key : ∀ {b : Bool} {p : Prop} [Decidable p], (p ↔ b = true) → b = decide p := fun {b p} _ e => by
    by_cases c : p
    · rw [e.1 c, decide_eq_true c]
    · rw [decide_eq_false c]
      cases b with
      | false => rfl
      | true => exact absurd (e.2 rfl) c
  refine key ?_
  unfold hN
  have hk := h.hk
  by_cases c1 : d < nx.length
  · rw [if_neg (by omega)]; exact h.at_state c1
  · by_cases c2 : d < nx.length + nx.length * k
    · rw [if_pos ⟨by omega, c2⟩]
      have hc : (d - nx.length) % k < k := Nat.mod_lt _ (by omega)
      have hq : (d - nx.length) / k < nx.length := (Nat.div_lt_iff_lt_mul (by omega)).2 (by omega)
      have e : d = nx.length + k * ((d - nx.length) / k) + (d - nx.length) % k := by
        have := Nat.div_add_mod (d - nx.length) k; omega
      have := h.at_trans2 (t := t) hq hc
      rw [← e] at this; exact this
    · have e : d = nx.length + nx.length * k := by omega
      rw [if_neg (by omega), e]; exact h.at_acc
theorem net : netCheck (autN nx st acc k) = 0 := by
  have h1 := h.hs; have h2 := h.hk; have h3 := h.ss_len; have h4 := h.st; have h5 := h.acc
  have hsk : nx.length * k ≤ 32 * 16 := Nat.mul_le_mul h1.2 h2.2
  have hl : (mNs nx.length k (nx.length + nx.length * k + 1)).length = nx.length + nx.length * k + 1 := mNs_len _ _ _
  have e1 : firstE nCheck (mNs nx.length k (nx.length + nx.length * k + 1)) = 0 := firstE_all (fun p hp => by
    obtain ⟨j, _, rfl⟩ := List.mem_map.1 hp
    unfold hN; split <;> decide)
  have e2 : firstE (synE (mNs nx.length k (nx.length + nx.length * k + 1)).length ((k + 1 : Nat) : Int)) (autSs nx st acc k) = 0 := firstE_all (fun s hs => by
    unfold synE
    rw [if_pos]
    rw [hl]
    rcases ss_mem.1 hs with rfl | ⟨q, c, hq, hc, rfl | rfl | rfl⟩ | ⟨q, hq, hc, rfl⟩
    · unfold wi; dsimp only; omega
    · have := kq_lt hq (Nat.lt_of_lt_of_le hc (h.rlen q).1); unfold wi; dsimp only; omega
    · have := kq_lt hq (Nat.lt_of_lt_of_le hc (h.rlen q).1); have := (h.rlen q).1; unfold wi; dsimp only; omega
    · have := kq_lt hq (Nat.lt_of_lt_of_le hc (h.rlen q).1); have := h.rval hq (Nat.lt_of_lt_of_le hc (h.rlen q).1); unfold wi; dsimp only; omega
    · unfold wi; dsimp only; omega)
  unfold netCheck autN
  dsimp only
  rw [hl] at e2 ⊢
  rw [if_neg (by omega), if_neg (by omega), if_neg (by omega), if_neg (by rw [e1]; decide)]
  exact e2
theorem idl_ok (t : Nat) : (idlA ws k t).Pairwise (· < ·) ∧ ∀ i ∈ idlA ws k t, wi i 0 (((k + 1 : Nat) : Int) - 1) := by
  have hv := h.wsv (t / 3)
  unfold idlA wi
  by_cases c1 : t % 3 = 0 ∧ t / 3 < ws.length <;> by_cases c2 : t = 0
  · rw [if_pos c1, if_pos c2]
    refine ⟨?_, fun i hi => ?_⟩
    · simp only [List.cons_append, List.nil_append, List.pairwise_cons, List.mem_singleton, List.not_mem_nil, false_implies, implies_true, List.Pairwise.nil, and_true]
      intro a ha; omega
    · simp only [List.cons_append, List.nil_append, List.mem_cons, List.not_mem_nil, or_false] at hi; omega
  · rw [if_pos c1, if_neg c2]
    exact ⟨by simp, fun i hi => by simp only [List.append_nil, List.mem_singleton] at hi; omega⟩
  · rw [if_neg c1, if_pos c2]
    exact ⟨by simp, fun i hi => by simp only [List.nil_append, List.mem_singleton] at hi; omega⟩
  · rw [if_neg c1, if_neg c2]
    exact ⟨by simp, fun i hi => by simp at hi⟩
omit h in
theorem ev_blocks : ∀ m, m + 1 ≤ ws.length → evF (idlA ws k) 0 (3 * (m + 1)) = evW ws 0 :: (⟨0, (k : Int)⟩ :: (List.range m).map (fun j => evW ws (j + 1)))
  | 0, hm => by
    simp only [evF, idlA, evW]
    rw [if_pos (by constructor <;> first | trivial | omega)]
    simp
  | m + 1, hm => by
    have e : 3 * (m + 1 + 1) = 3 * (m + 1) + 1 + 1 + 1 := by omega
    rw [e, evF_app, evF_app, evF_app, ev_blocks m (by omega), List.range_succ, List.map_append]
    have e1 : idlA ws k (0 + 3 * (m + 1)) = [ws.getD (m + 1) 0] := by
      unfold idlA
      have : (0 + 3 * (m + 1)) / 3 = m + 1 := by omega
      rw [this, if_pos ⟨by omega, by omega⟩, if_neg (by omega)]; rfl
    have e2 : idlA ws k (0 + (3 * (m + 1) + 1)) = [] := by
      unfold idlA
      rw [if_neg (fun c => by omega), if_neg (by omega)]; rfl
    have e3 : idlA ws k (0 + (3 * (m + 1) + 1 + 1)) = [] := by
      unfold idlA
      rw [if_neg (fun c => by omega), if_neg (by omega)]; rfl
    rw [e1, e2, e3]
    simp [evW]
omit h in
theorem evF_eq : evF (idlA ws k) 0 (3 * ws.length + 20) = evA ws k := by
  unfold evA
  rcases Nat.eq_zero_or_pos ws.length with h0 | h0
  · rw [h0, show 3 * 0 + 20 = 1 + 19 from rfl, evF_more (T := 1) (fun t ht => by
      unfold idlA
      rw [if_neg (by omega), if_neg (by omega)]; rfl)]
    simp [evF, idlA, h0, insI, evsW]
  · obtain ⟨m, hm⟩ : ∃ m, ws.length = m + 1 := ⟨ws.length - 1, by omega⟩
    rw [evF_more (T := 3 * ws.length) (fun t ht => by
      unfold idlA
      rw [if_neg (by omega), if_neg (by omega)]; rfl)]
    rw [hm, ev_blocks m (by omega), show min 1 (m + 1) = 1 by omega]
    unfold insI evsW
    rw [List.range_succ_eq_map]
    simp [List.map_map, Function.comp_def]
theorem prep (hs8 : nx.length ≤ 8) (hk4 : k ≤ 4) (hl : ws.length ≤ 40) : preparedE ⟨(autN nx st acc k).ns, (autN nx st acc k).inp, (autN nx st acc k).ss⟩ (evA ws k) (3 * (ws.length : Int) + 20) 10000 = 0 := by
  have h1 := h.net
  unfold preparedE
  rw [if_neg (by rw [show netCheck ⟨(autN nx st acc k).ns, (autN nx st acc k).inp, (autN nx st acc k).ss⟩ = 0 from h1]; decide), if_pos (by unfold wi; omega)]
  unfold orderedE
  rw [if_neg (by unfold evA; rw [insI_len (by rw [evsW_len]; omega), evsW_len]; omega), ← evF_eq]
  exact evF_ord (fun k => (h.idl_ok k).1) (fun k i hi => (h.idl_ok k).2 i hi) (3 * ws.length + 20) 0 none (by omega) (fun e h => by cases h)
theorem runO (hs8 : nx.length ≤ 8) (hk4 : k ≤ 4) (hl : ws.length ≤ 40) : runN ⟨(autN nx st acc k).ns, (autN nx st acc k).inp, (autN nx st acc k).ss⟩ (evA ws k) (3 * ws.length + 20) = some (outF (autF nx st acc ws k) (nx.length + nx.length * k + 1) (3 * ws.length + 20)) := by
  have hln : (mNs nx.length k (nx.length + nx.length * k + 1)).length = nx.length + nx.length * k + 1 := mNs_len _ _ _
  have hsk : nx.length * k ≤ 8 * 4 := Nat.mul_le_mul hs8 hk4
  have hX : ∀ t d, 0 ≤ inX (autSs nx st acc k) (autF nx st acc ws k) (idlA ws k) t d ∧ inX (autSs nx st acc k) (autF nx st acc ws k) (idlA ws k) t d ≤ 1600 := fun t d => by
    have h1 := inX_one (ss := autSs nx st acc k) (F := autF nx st acc ws k) (idl := idlA ws k) (k := t) (d := d) (fun s hs _ => h.wt1 hs)
    have h2 := h.ss_len
    exact ⟨h1.1, by have := h1.2.1; omega⟩
  have hT : (3 * ws.length + 20) * (nx.length + nx.length * k + 1) ≤ 140 * 41 := Nat.mul_le_mul (by omega) (by omega)
  have hr := sim_run (ns := mNs nx.length k (nx.length + nx.length * k + 1)) (ip := ((k + 1 : Nat) : Int)) (ss := autSs nx st acc k) (F := autF nx st acc ws k) (idl := idlA ws k) (V := autV nx st acc ws k) (T := 3 * ws.length + 20)
    ⟨fun p hp => by
      obtain ⟨j, _, rfl⟩ := List.mem_map.1 hp
      exact ⟨by unfold hN; split <;> decide, rfl⟩,
     fun s hs => by
      rw [hln]
      have h4 := h.st; have h5 := h.acc
      rcases ss_mem.1 hs with rfl | ⟨q, c, hq, hc, rfl | rfl | rfl⟩ | ⟨q, hq, hc, rfl⟩
      · dsimp only; omega
      · have := kq_lt hq (Nat.lt_of_lt_of_le hc (h.rlen q).1); dsimp only; omega
      · have := kq_lt hq (Nat.lt_of_lt_of_le hc (h.rlen q).1); dsimp only; omega
      · have := kq_lt hq (Nat.lt_of_lt_of_le hc (h.rlen q).1); have := h.rval hq (Nat.lt_of_lt_of_le hc (h.rlen q).1); dsimp only; omega
      · dsimp only; omega,
     fun t => ⟨(h.idl_ok t).1.imp (fun h => by omega), fun i hi => by have := (h.idl_ok t).2 i hi; unfold wi at this; omega⟩⟩
    (fun d => rfl)
    (fun t d _ hd => by have := hX t d; omega)
    (fun t d p _ hp => by
      obtain ⟨hd, e⟩ := List.getElem?_eq_some_iff.1 hp
      rw [hln] at hd
      have : p = gateP (hN nx.length k d) := by rw [← e]; simp [mNs]
      subst this
      have := hX t d
      rw [stepV_gate (by unfold hN; split <;> omega) (by omega), ← h.fires hd]; rfl)
    (by rw [hln]; omega)
  rw [hln, evF_eq] at hr
  exact hr
theorem out_none {t : Nat} (ht : t % 3 = 0 ∨ ws.length < t / 3) : (List.range (nx.length + nx.length * k + 1)).filter (autF nx st acc ws k t) = [] := filt_none (fun d _ hF => by
  unfold autF at hF
  split at hF
  · have := (decide_eq_true_eq.mp hF); omega
  · split at hF
    · have := (decide_eq_true_eq.mp hF); omega
    · have := (decide_eq_true_eq.mp hF); omega)
theorem out_block {i : Nat} (hi : i ≤ ws.length) : ((List.range (nx.length + nx.length * k + 1)).filter (autF nx st acc ws k (3 * i))).map (fun d : Nat => (⟨((3 * i : Nat) : Int), (d : Int)⟩ : Evt)) ++ (((List.range (nx.length + nx.length * k + 1)).filter (autF nx st acc ws k (3 * i + 1))).map (fun d : Nat => (⟨((3 * i + 1 : Nat) : Int), (d : Int)⟩ : Evt)) ++ ((List.range (nx.length + nx.length * k + 1)).filter (autF nx st acc ws k (3 * i + 2))).map (fun d : Nat => (⟨((3 * i + 2 : Nat) : Int), (d : Int)⟩ : Evt))) = blkA nx st acc ws k i := by
  have hw := h.want i; have hv := h.wsv i
  rw [h.out_none (t := 3 * i) (.inl (by omega)), filt_one (a := (wantA nx st ws i).toNat) (by omega) (fun d hd => ?_), List.range_succ, List.filter_append]
  · unfold blkA
    have hlt := kq_lt (s := nx.length) (q := (wantA nx st ws i).toNat) (k := k) (c := (ws.getD i 0).toNat) (by omega) (by omega)
    have e1 : (List.range (nx.length + nx.length * k)).filter (autF nx st acc ws k (3 * i + 2)) = if i < ws.length then [nx.length + (k * (wantA nx st ws i).toNat + (ws.getD i 0).toNat)] else [] := by
      have e5 : (3 * i + 2) / 3 = i := by omega
      by_cases c : i < ws.length
      · rw [if_pos c]
        refine filt_one (by omega) (fun d hd => ?_)
        unfold autF
        rw [e5]
        by_cases c1 : d < nx.length
        · rw [if_pos c1, decide_eq_true_eq]; omega
        · rw [if_neg c1, if_pos hd, decide_eq_true_eq]; omega
      · rw [if_neg c]
        refine filt_none (fun d hd => ?_)
        unfold autF
        rw [e5]
        by_cases c1 : d < nx.length
        · rw [if_pos c1, decide_eq_true_eq]; omega
        · rw [if_neg c1, if_pos hd, decide_eq_true_eq]; omega
    have e2 : autF nx st acc ws k (3 * i + 2) (nx.length + nx.length * k) = acc.getD (wantA nx st ws i).toNat false := by
      unfold autF
      rw [if_neg (by omega), if_neg (by omega), show (3 * i + 2) / 3 = i by omega]
      simp [hi]
    rw [e1, List.map_append, List.map_nil, List.nil_append]
    congr 1
    · simp; omega
    · congr 1
      · split <;> rfl
      · by_cases c : acc.getD (wantA nx st ws i).toNat false = true
        · rw [if_pos c]; simp only [List.filter_cons, e2, c, if_true, List.filter_nil, List.map_cons, List.map_nil]
        · have c' : acc.getD (wantA nx st ws i).toNat false = false := by simpa using c
          rw [if_neg c, List.filter_cons, e2, c', if_neg (by decide)]; rfl
  · unfold autF
    rw [show (3 * i + 1) / 3 = i by omega]
    by_cases c1 : d < nx.length
    · rw [if_pos c1, decide_eq_true_eq]; omega
    · rw [if_neg c1]
      split <;> (rw [decide_eq_true_eq]; omega)
theorem out_blocks : ∀ m, m ≤ ws.length + 1 → outF (autF nx st acc ws k) (nx.length + nx.length * k + 1) (3 * m) = (List.range m).flatMap (blkA nx st acc ws k)
  | 0, _ => rfl
  | m + 1, hm => by
    rw [show 3 * (m + 1) = 3 * m + 1 + 1 + 1 by omega, outF_next, outF_next, outF_next, out_blocks m (by omega), List.range_succ (n := m), List.flatMap_append, List.append_assoc, List.append_assoc]
    congr 1
    rw [h.out_block (i := m) (by omega)]; simp
theorem out_more : ∀ f, outF (autF nx st acc ws k) (nx.length + nx.length * k + 1) (3 * (ws.length + 1) + f) = outA nx st acc ws k
  | 0 => h.out_blocks _ (Nat.le_refl _)
  | f + 1 => by
    rw [← Nat.add_assoc, outF_next, out_more f, h.out_none (.inr (by omega))]; simp
theorem run (hs8 : nx.length ≤ 8) (hk4 : k ≤ 4) (hl : ws.length ≤ 40) : runN ⟨(autN nx st acc k).ns, (autN nx st acc k).inp, (autN nx st acc k).ss⟩ (evA ws k) (3 * ws.length + 20) = some (outA nx st acc ws k) := by
  rw [h.runO hs8 hk4 hl, show 3 * ws.length + 20 = 3 * (ws.length + 1) + 17 by omega, h.out_more]
end AutOK
end
end Go.Proofs.Ytilcdghliigngaa
namespace Go.Proofs.Ytilcdghliigngaa
open Go.RowKit Go.Proofs.YtilcdghliigngaaGl Go.Proofs.YtilcdghliigngaaPm
set_option linter.unusedVariables false
set_option linter.unusedSimpArgs false
set_option linter.unusedSectionVars false
section
variable {nx : List (List Int)} {st : Int} {acc : List Bool} {ws : List Int} {k : Nat}
def wN (nx : List (List Int)) (st : Int) (ws : List Int) (i : Nat) : Nat := (wantA nx st ws i).toNat
def wantL (nx : List (List Int)) (st : Int) (ws : List Int) (m : Nat) : List Int := (List.range m).map (fun i => ((wN nx st ws i : Nat) : Int))
def accT (N : Nat) (l : List Evt) : List Int := (l.filter (fun e => decide (e.id = (N : Int)))).map (·.tick)
def accP (nx : List (List Int)) (st : Int) (acc : List Bool) (ws : List Int) (i : Nat) : Bool := acc.getD (wN nx st ws i) false
def cntA (nx : List (List Int)) (st : Int) (acc : List Bool) (ws : List Int) (i : Nat) : Nat := ((List.range i).filter (accP nx st acc ws)).length
def tksA (nx : List (List Int)) (st : Int) (acc : List Bool) (ws : List Int) (m : Nat) : List Int := ((List.range m).filter (accP nx st acc ws)).map (fun i => ((3 * i + 2 : Nat) : Int))
theorem wantL_succ (nx : List (List Int)) (st : Int) (ws : List Int) (m : Nat) : wantL nx st ws (m + 1) = wantL nx st ws m ++ [((wN nx st ws m : Nat) : Int)] := by
  unfold wantL; rw [List.range_succ, List.map_append]; rfl
theorem wantL_len (nx : List (List Int)) (st : Int) (ws : List Int) (m : Nat) : (wantL nx st ws m).length = m := by unfold wantL; simp
theorem wantL_get {i m : Nat} (h : i < m) : (wantL nx st ws m)[i]? = some ((wN nx st ws i : Nat) : Int) := by
  unfold wantL; rw [List.getElem?_map, List.getElem?_range h]; rfl
theorem accT_yes {N : Nat} {l : List Evt} {i : Nat} {x : Evt} (h : l[i]? = some x) (hx : x.id = (N : Int)) : accT N (l.take (i + 1)) = accT N (l.take i) ++ [x.tick] := by
  unfold accT; rw [List.take_add_one, h, List.filter_append, List.map_append]; simp [hx]
theorem accT_no {N : Nat} {l : List Evt} {i : Nat} {x : Evt} (h : l[i]? = some x) (hx : ¬ x.id = (N : Int)) : accT N (l.take (i + 1)) = accT N (l.take i) := by
  unfold accT; rw [List.take_add_one, h, List.filter_append, List.map_append]; simp [hx]
theorem accT_len (N : Nat) (l : List Evt) : (accT N l).length ≤ l.length := by
  unfold accT; rw [List.length_map]; exact List.length_filter_le _ _
theorem cntA_yes {i : Nat} (h : accP nx st acc ws i = true) : cntA nx st acc ws (i + 1) = cntA nx st acc ws i + 1 := by
  unfold cntA; rw [List.range_succ, List.filter_append]; simp [h]
theorem cntA_no {i : Nat} (h : ¬ accP nx st acc ws i = true) : cntA nx st acc ws (i + 1) = cntA nx st acc ws i := by
  unfold cntA; rw [List.range_succ, List.filter_append]; simp [h]
theorem tksA_len (m : Nat) : (tksA nx st acc ws m).length = cntA nx st acc ws m := by unfold tksA cntA; rw [List.length_map]
theorem filt_get {p : Nat → Bool} {i : Nat} (hp : p i = true) : ∀ {m : Nat}, i < m → ((List.range m).filter p)[((List.range i).filter p).length]? = some i
  | 0, h => by omega
  | m + 1, h => by
    rw [List.range_succ (n := m), List.filter_append]
    by_cases e : i = m
    · subst e
      rw [List.getElem?_append_right (Nat.le_refl _)]; simp [hp]
    · have ih := filt_get hp (m := m) (by omega)
      rw [List.getElem?_append_left (List.getElem?_eq_some_iff.1 ih).1]; exact ih
theorem tksA_get {i m : Nat} (hi : i < m) (hp : accP nx st acc ws i = true) : (tksA nx st acc ws m)[cntA nx st acc ws i]? = some ((3 * i + 2 : Nat) : Int) := by
  unfold tksA cntA; rw [List.getElem?_map, filt_get hp hi]; rfl
theorem cntA_le (i : Nat) : cntA nx st acc ws i ≤ i := by
  unfold cntA
  have := List.length_filter_le (accP nx st acc ws) (List.range i)
  rwa [List.length_range] at this
theorem map_fm {α β γ : Type} (g : β → γ) (f : α → List β) (xs : List α) : (xs.flatMap f).map g = xs.flatMap (fun x => (f x).map g) := by
  induction xs with
  | nil => rfl
  | cons x xs ih => rw [List.flatMap_cons, List.map_append, ih, List.flatMap_cons]
theorem filter_fm {α β : Type} (p : β → Bool) (f : α → List β) (xs : List α) : (xs.flatMap f).filter p = xs.flatMap (fun x => (f x).filter p) := by
  induction xs with
  | nil => rfl
  | cons x xs ih => rw [List.flatMap_cons, List.filter_append, ih, List.flatMap_cons]
theorem fm_congr {α β : Type} {f g : α → List β} {xs : List α} (h : ∀ x ∈ xs, f x = g x) : xs.flatMap f = xs.flatMap g := by
  induction xs with
  | nil => rfl
  | cons x xs ih => rw [List.flatMap_cons, List.flatMap_cons, h x (.head _), ih (fun y hy => h y (.tail _ hy))]
theorem filt_fm {α : Type} (p : Nat → Bool) (f : Nat → α) (xs : List Nat) : xs.flatMap (fun i => if p i = true then [f i] else []) = (xs.filter p).map f := by
  induction xs with
  | nil => rfl
  | cons x xs ih =>
    rw [List.flatMap_cons, List.filter_cons, ih]
    by_cases h : p x = true
    · rw [if_pos h, if_pos h]; rfl
    · rw [if_neg h, if_neg h]; rfl
theorem fm_one_map {α : Type} (f : Nat → α) (xs : List Nat) : xs.flatMap (fun i => [f i]) = xs.map f := by
  induction xs with
  | nil => rfl
  | cons x xs ih => rw [List.flatMap_cons, ih]; rfl
namespace AutOK
variable (h : AutOK nx st acc ws k)
include h
theorem wN_eq (i : Nat) : ((wN nx st ws i : Nat) : Int) = wantA nx st ws i := by have := h.want i; unfold wN; omega
theorem wN_lt (i : Nat) : wN nx st ws i < nx.length := by have := h.want i; unfold wN; omega
theorem wN_step {i u : Nat} {r : List Int} (hr : nx[wN nx st ws i]? = some r) (hw : ws[i]? = some ((u : Nat) : Int)) : r[u]? = some ((wN nx st ws (i + 1) : Nat) : Int) := by
  have hu : (u : Int) < k := (h.ws _ (List.mem_iff_getElem?.2 ⟨i, hw⟩)).2
  have hl := h.row r (List.mem_iff_getElem?.2 ⟨_, hr⟩)
  obtain ⟨y, hy⟩ : ∃ y, r[u]? = some y := ⟨_, List.getElem?_eq_getElem (by omega)⟩
  have e : wantA nx st ws (i + 1) = y := by
    rw [wantA]
    have e1 : nx.getD (wantA nx st ws i).toNat [] = r := getD_at hr
    rw [e1, getD_at hw, Int.toNat_natCast, getD_at hy]
  rw [h.wN_eq, e, hy]
theorem autoE0 : autoE nx st acc.length = 0 := by
  have h1 := h.hs; have h2 := h.hk; have h3 := h.head
  unfold autoE
  rw [if_pos (by unfold wi; omega), if_pos h.acc, h3, if_pos (by unfold wi; omega), if_neg (fun ⟨r, hr, hn⟩ => hn (h.row r hr))]
  refine firstE_all (fun x hx => ?_)
  unfold stE
  rw [if_pos]
  rcases List.mem_append.1 hx with hx | hx
  · obtain ⟨r, hr, hx⟩ := List.mem_flatten.1 hx
    have := h.val r hr x hx; unfold wi; omega
  · obtain rfl := List.mem_singleton.1 hx
    have := h.st; unfold wi; omega
theorem machine_ok : machineP nx st acc = .ok (autN nx st acc k) := by
  unfold machineP
  rw [if_neg (by rw [h.autoE0]; decide), h.machineN_eq]
theorem word_ok (hl : ws.length ≤ 40) : wordP nx st acc.length ws = .ok (evA ws k) := by
  unfold wordP
  rw [if_neg (by rw [h.autoE0]; decide), if_neg (by omega), h.head, if_neg]
  · rfl
  · rw [firstE_all (fun x hx => symE_0 (by have := h.ws x hx; unfold wi; omega))]; decide
theorem states_ok (evs : List Evt) : statesP nx st acc.length evs = .ok (stF nx.length evs) := by
  unfold statesP
  rw [if_neg (by rw [h.autoE0]; decide)]
theorem blk_st (i : Nat) : (blkA nx st acc ws k i).filter (fun e => decide (stOk nx.length e)) = [⟨((3 * i + 1 : Nat) : Int), wantA nx st ws i⟩] := by
  have hw := h.want i
  unfold blkA
  rw [List.filter_append, List.filter_append]
  have e1 : ∀ x : Evt, x.tick = ((3 * i + 2 : Nat) : Int) → decide (stOk nx.length x) = false := fun x hx => by
    rw [decide_eq_false_iff_not]; unfold stOk; rw [hx]; omega
  have e2 : decide (stOk nx.length ⟨((3 * i + 1 : Nat) : Int), wantA nx st ws i⟩) = true := by
    rw [decide_eq_true_eq]; unfold stOk wi; dsimp only; omega
  have f1 : ([⟨((3 * i + 1 : Nat) : Int), wantA nx st ws i⟩] : List Evt).filter (fun e => decide (stOk nx.length e)) = [⟨((3 * i + 1 : Nat) : Int), wantA nx st ws i⟩] := by rw [List.filter_cons, if_pos e2]; rfl
  have f2 : (if i < ws.length then [(⟨((3 * i + 2 : Nat) : Int), ((nx.length + (k * (wantA nx st ws i).toNat + (ws.getD i 0).toNat) : Nat) : Int)⟩ : Evt)] else []).filter (fun e => decide (stOk nx.length e)) = [] := by
    split
    · rw [List.filter_cons, e1 _ rfl]; rfl
    · rfl
  have f3 : (if acc.getD (wantA nx st ws i).toNat false = true then [(⟨((3 * i + 2 : Nat) : Int), ((nx.length + nx.length * k : Nat) : Int)⟩ : Evt)] else []).filter (fun e => decide (stOk nx.length e)) = [] := by
    split
    · rw [List.filter_cons, e1 _ rfl]; rfl
    · rfl
  rw [f1, f2, f3]; rfl
theorem got : stF nx.length (outA nx st acc ws k) = wantL nx st ws (ws.length + 1) := by
  unfold stF outA
  rw [filter_fm, fm_congr (fun i _ => h.blk_st i), map_fm]
  refine (fm_one_map (fun i => wantA nx st ws i) _).trans ?_
  unfold wantL
  exact List.map_congr_left (fun i _ => (h.wN_eq i).symm)
theorem tks : accT (nx.length + nx.length * k) (outA nx st acc ws k) = tksA nx st acc ws (ws.length + 1) := by
  unfold accT outA tksA
  rw [filter_fm, ← filt_fm, map_fm]
  refine fm_congr (fun i _ => ?_)
  have hw := h.want i; have hv := h.wsv i
  have hlt := kq_lt (s := nx.length) (q := (wantA nx st ws i).toNat) (k := k) (c := (ws.getD i 0).toNat) (by omega) (by omega)
  unfold blkA accP
  rw [List.filter_append, List.filter_append]
  have e1 : decide (wantA nx st ws i = ((nx.length + nx.length * k : Nat) : Int)) = false := by rw [decide_eq_false_iff_not]; omega
  have e2 : decide (((nx.length + (k * (wantA nx st ws i).toNat + (ws.getD i 0).toNat) : Nat) : Int) = ((nx.length + nx.length * k : Nat) : Int)) = false := by rw [decide_eq_false_iff_not]; omega
  have e3 : wN nx st ws i = (wantA nx st ws i).toNat := rfl
  rw [e3]
  have f1 : ([⟨((3 * i + 1 : Nat) : Int), wantA nx st ws i⟩] : List Evt).filter (fun e => decide (e.id = ((nx.length + nx.length * k : Nat) : Int))) = [] := by rw [List.filter_cons, e1]; rfl
  have f2 : (if i < ws.length then [(⟨((3 * i + 2 : Nat) : Int), ((nx.length + (k * (wantA nx st ws i).toNat + (ws.getD i 0).toNat) : Nat) : Int)⟩ : Evt)] else []).filter (fun e => decide (e.id = ((nx.length + nx.length * k : Nat) : Int))) = [] := by
    split
    · rw [List.filter_cons, e2]; rfl
    · rfl
  rw [f1, f2]
  by_cases c : acc.getD (wantA nx st ws i).toNat false = true
  · rw [if_pos c, if_pos c, List.filter_cons, if_pos (by simp)]; rfl
  · rw [if_neg c, if_neg c]; rfl
theorem out_ok {x : Evt} (hx : x ∈ outA nx st acc ws k) : ∃ t : Nat, x.tick = (t : Int) ∧ t ≤ 3 * ws.length + 2 ∧ (x.id < (nx.length : Int) → t % 3 = 1 ∧ t / 3 < ws.length + 1 ∧ x.id = ((wN nx st ws (t / 3) : Nat) : Int)) := by
  obtain ⟨i, hi, hx⟩ := List.mem_flatMap.1 hx
  have hi := List.mem_range.1 hi
  have hw := h.want i; have hv := h.wsv i
  unfold blkA at hx
  rcases List.mem_append.1 hx with hx | hx
  · obtain rfl := List.mem_singleton.1 hx
    refine ⟨3 * i + 1, rfl, by omega, fun _ => ⟨by omega, by omega, ?_⟩⟩
    rw [show (3 * i + 1) / 3 = i by omega, h.wN_eq]
  · rcases List.mem_append.1 hx with hx | hx
    · split at hx
      · obtain rfl := List.mem_singleton.1 hx
        exact ⟨3 * i + 2, rfl, by omega, fun hlt => by dsimp only at hlt; omega⟩
      · cases hx
    · split at hx
      · obtain rfl := List.mem_singleton.1 hx
        exact ⟨3 * i + 2, rfl, by omega, fun hlt => by dsimp only at hlt; omega⟩
      · cases hx
theorem out_len : (outA nx st acc ws k).length ≤ 3 * (ws.length + 1) := by
  unfold outA
  have : ∀ m : Nat, ((List.range m).flatMap (blkA nx st acc ws k)).length ≤ 3 * m := fun m => by
    induction m with
    | zero => simp
    | succ m ih =>
      rw [List.range_succ, List.flatMap_append, List.length_append]
      have : ([m].flatMap (blkA nx st acc ws k)).length ≤ 3 := by
        rw [List.flatMap_cons, List.flatMap_nil, List.append_nil]
        unfold blkA; split <;> split <;> simp
      omega
  exact this _
end AutOK
end
def mdTo (q n : Nat) (xs : List Int) (s c : Nat) : Int := if xs.length = 0 then 0 else xs.getD ((s * n + c) % xs.length) 0 % (q : Int)
def mdRow (q n : Nat) (xs : List Int) (s c : Nat) : List Int := (List.range c).map (mdTo q n xs s)
def mdNx (q n : Nat) (xs : List Int) (s : Nat) : List (List Int) := (List.range s).map (fun s => mdRow q n xs s n)
def wdL (n : Nat) (us : List Int) : List Int := us.map (fun x => x % (n : Int))
theorem mdRow_succ (q n : Nat) (xs : List Int) (s c : Nat) : mdRow q n xs s (c + 1) = mdRow q n xs s c ++ [mdTo q n xs s c] := by
  unfold mdRow; rw [List.range_succ, List.map_append]; rfl
theorem mdRow_len (q n : Nat) (xs : List Int) (s c : Nat) : (mdRow q n xs s c).length = c := by unfold mdRow; simp
theorem mdNx_succ (q n : Nat) (xs : List Int) (s : Nat) : mdNx q n xs (s + 1) = mdNx q n xs s ++ [mdRow q n xs s n] := by
  unfold mdNx; rw [List.range_succ, List.map_append]; rfl
theorem mdNx_len (q n : Nat) (xs : List Int) (s : Nat) : (mdNx q n xs s).length = s := by unfold mdNx; simp
theorem wdL_len (n : Nat) (us : List Int) : (wdL n us).length = us.length := by unfold wdL; simp
theorem mdTo_in {q n : Nat} {xs : List Int} (hq : 1 ≤ q) (hx : ∀ x ∈ xs, 0 ≤ x) (s c : Nat) : 0 ≤ mdTo q n xs s c ∧ mdTo q n xs s c < (q : Int) := by
  unfold mdTo
  split
  · omega
  · exact ⟨Int.emod_nonneg _ (by omega), Int.emod_lt_of_pos _ (by omega)⟩
theorem aut_made {q n s0 : Nat} {xs us : List Int} {acc : List Bool} (hq : 1 ≤ q ∧ q ≤ 8) (hn : 1 ≤ n ∧ n ≤ 4) (hs : s0 < q) (hx : ∀ x ∈ xs, 0 ≤ x) (ha : acc.length = q) (hu : ∀ x ∈ us, 0 ≤ x) : AutOK (mdNx q n xs q) (s0 : Int) acc (wdL n us) n where
  hs := by rw [mdNx_len]; omega
  hk := by omega
  row := fun r hr => by obtain ⟨s, _, rfl⟩ := List.mem_map.1 hr; exact mdRow_len ..
  val := fun r hr x hx' => by
    obtain ⟨s, _, rfl⟩ := List.mem_map.1 hr
    obtain ⟨c, _, rfl⟩ := List.mem_map.1 hx'
    rw [mdNx_len]; exact mdTo_in hq.1 hx s c
  st := by rw [mdNx_len]; omega
  acc := by rw [mdNx_len]; exact ha
  ws := fun x hx => by
    obtain ⟨y, _, rfl⟩ := List.mem_map.1 hx
    exact ⟨Int.emod_nonneg _ (by omega), Int.emod_lt_of_pos _ (by omega)⟩
end Go.Proofs.Ytilcdghliigngaa
namespace Go.Proofs.Ytilcdghliigngaa
open Go.RowKit Go.Proofs.YtilcdghliigngaaGl Go.Proofs.YtilcdghliigngaaPm
set_option linter.unusedVariables false
set_option linter.unusedSimpArgs false
def shA (x : Int) (k : Nat) : Int := x.fdiv (2 ^ min k IntKind.u32.bits)
def anA (x : Int) (k : Nat) : Int := IntKind.u32.wrap ((BitVec.ofInt IntKind.u32.bits (shA x k) &&& BitVec.ofInt IntKind.u32.bits 1).toNat)
def accB (x : Int) (i : Nat) : Bool := anA x i == 1
def accL (x : Int) (s : Nat) : List Bool := (List.range s).map (accB x)
theorem accL_succ (x : Int) (s : Nat) : accL x (s + 1) = accL x s ++ [anA x s == 1] := by
  unfold accL; rw [List.range_succ, List.map_append]; rfl
theorem accL_len (x : Int) (s : Nat) : (accL x s).length = s := by unfold accL; simp
theorem a_mulN {i j : Nat} (h : i * j ≤ 1000000) : arV .mul .i64 (i : Int) (j : Int) = some ((i * j : Nat) : Int) := by
  rw [Int.natCast_mul]; exact a_mul (by rw [← Int.natCast_mul]; omega)
theorem a_addN {i j : Nat} (h : i + j ≤ 1000000) : arV .add .i64 (i : Int) (j : Int) = some ((i + j : Nat) : Int) := by
  rw [Int.natCast_add]; exact a_add (by omega)
theorem a_remN {i j : Nat} (h : 0 < j) : arV .rem .i64 (i : Int) (j : Int) = some ((i % j : Nat) : Int) := by
  rw [Int.natCast_emod]; exact a_rem (by omega) (by omega)
theorem a_quoN {i j : Nat} (h : 0 < j) (hi : i ≤ 1000000) : arV .quo .i64 (i : Int) (j : Int) = some ((i / j : Nat) : Int) := by
  rw [Int.natCast_ediv]; exact a_quo (by omega)
theorem machine_q {na : Option Addr} {nc q : Nat} {lz : List NL} {st : Int} {aa : Option Addr} {ac : Nat} {acc : List Bool} {w : World} {X : List (List Int)} {N : NetP} (hz : lz.map (fun l : NL => l.2) = X) (hq : lz.length = q) (ha : acc.length = q) (hN : machineP X st acc = .ok N) (h : RoLL w na lz ∧ RoL w aa eBool acc) :
    Calls Try.prog 14 [.agg [.slice na q nc, .int .i64 st, .slice aa q ac].toArray].toArray w fun e w' => ∃ x : (Option Addr × Nat) × (Option Addr × Nat), e = .returned (.tuple #[.agg #[.slice x.1.1 N.ns.length x.1.2, .int .i64 N.inp, .slice x.2.1 N.ss.length x.2.2], .int .i64 0]) ∧ Sat w w' [row x.1.1 x.1.2 116 8 N.ns.length (N.ns.flatMap ePrm), row x.2.1 x.2.2 126 4 N.ss.length (N.ss.flatMap eSyn)] := by
  subst hq; subst hz; have := machine_c na nc lz st aa ac acc w h.1 h.2; rw [ha] at this; exact retR_ok this hN
theorem word_q {na : Option Addr} {nc q : Nat} {lz : List NL} {st : Int} {aa : Option Addr} {al ac : Nat} {wa : Option Addr} {wc : Nat} {ws : List Int} {w : World} {X : List (List Int)} {E : List Evt} (hz : lz.map (fun l : NL => l.2) = X) (hq : lz.length = q) (hE : wordP X st al ws = .ok E) (h : RoLL w na lz) (hW : RoL w wa eInt ws) :
    Calls Try.prog 18 [.agg [.slice na q nc, .int .i64 st, .slice aa al ac].toArray, .slice wa ws.length wc].toArray w fun e w' => ∃ p : Option Addr × Nat, e = .returned (.tuple #[.slice p.1 E.length p.2, .int .i64 0]) ∧ Sat w w' [row p.1 p.2 88 2 E.length (E.flatMap eEvt)] := by
  subst hq; subst hz; exact retE_ok (word_c na nc lz st aa al ac wa wc ws w h hW) hE
theorem states_q {na : Option Addr} {nc q : Nat} {lz : List NL} {st : Int} {aa : Option Addr} {al ac : Nat} {ea : Option Addr} {ec : Nat} {evs : List Evt} {w : World} {X : List (List Int)} {E : List Int} (hz : lz.map (fun l : NL => l.2) = X) (hq : lz.length = q) (hE : statesP X st al evs = .ok E) (h : RoLL w na lz) (hV : RoL w ea eEvt evs) (hl : evs.length ≤ 1000000) :
    Calls Try.prog 21 [.agg [.slice na q nc, .int .i64 st, .slice aa al ac].toArray, .slice ea evs.length ec].toArray w fun e w' => ∃ p : Option Addr × Nat, e = .returned (.tuple #[.slice p.1 E.length p.2, .int .i64 0]) ∧ Sat w w' [row p.1 p.2 3 1 E.length (E.flatMap eInt)] := by
  subst hq; subst hz; exact retL_ok (states_c na nc lz st aa al ac ea ec evs w h hV hl) hE
abbrev AutoX (X : List (List Int)) := {r : (Option Addr × Nat) × List NL × (Option Addr × Nat) // r.2.1.map (fun l : NL => l.2) = X}
theorem len_of_map {lz : List NL} {X : List (List Int)} {q : Nat} (h : lz.map (fun l : NL => l.2) = X) (hX : X.length = q) : lz.length = q := by rw [← hX, ← h, List.length_map]
theorem get_of_map {lz : List NL} {X : List (List Int)} {i : Nat} {l : NL} (h : lz.map (fun l : NL => l.2) = X) (hl : lz[i]? = some l) : X[i]? = some l.2 := by rw [← h, List.getElem?_map, hl]; rfl
theorem made_c (sb yb ab tb : Int) (q n s0 : Nat) (xa : Option Addr) (xc : Nat) (xs : List Int) (w : World) (hX : RoL w xa eU8 xs) (hb : ∀ x ∈ xs, 0 ≤ x ∧ x ≤ 255) (hsb : 0 ≤ sb ∧ sb ≤ 255) (hyb : 0 ≤ yb ∧ yb ≤ 255) (htb : 0 ≤ tb ∧ tb ≤ 255) (hq : 1 + sb % 8 = (q : Int)) (hn : 1 + yb % 4 = (n : Int)) (hs0 : tb % (q : Int) = (s0 : Int)) : Calls Try.prog 40 [.int .u8 sb, .int .u8 yb, .slice xa xs.length xc, .int .u32 ab, .int .u8 tb].toArray w fun e w' => ∃ r : AutoX (mdNx q n xs q), e = .returned (.agg [.slice r.1.1.1 q r.1.1.2, .int .i64 (s0 : Int), .slice r.1.2.2.1 q r.1.2.2.2].toArray) ∧ Sat w w' [rd (fun w => RoLL w r.1.1.1 r.1.2.1 ∧ RoL w r.1.2.2.1 eBool (accL ab q))] := by
  refine fstart Try.func40 rfl rfl (Sat.nil w) ?_
  refine Cd.seq ?_
  refine Cd.region ?_
  refine Ops.alc [.slice none 0 0, .int .i64 0, .slice none 0 0] zc_36 ?_
  intro b1
  refine Ops.to rfl ?_
  refine Cd.seq ?_
  refine Cd.region ?_
  refine Ops.q (q_mv rfl) ?_
  refine Ops.q (q_conv iK_5 iK_3 rfl (IntWalk.i64_in _ (by omega))) ?_
  refine Ops.q (q_ar rfl rfl (a_rem (by omega) (by omega))) ?_
  refine Ops.q (q_ar rfl rfl (a_add (by omega))) ?_
  refine Ops.q (q_mv rfl) ?_
  refine Ops.q (q_conv iK_5 iK_3 rfl (IntWalk.i64_in _ (by omega))) ?_
  refine Ops.q (q_ar rfl rfl (a_rem (by omega) (by omega))) ?_
  refine Ops.q (q_ar rfl rfl (a_add (by omega))) ?_
  refine Ops.q (q_asg rfl) ?_
  refine Ops.q (q_asg rfl) ?_
  refine Ops.to rfl ?_
  refine Cd.seq ?_
  refine Cd.region ?_
  rw [hq, hn]
  refine Ops.q (q_mv rfl) ?_
  refine Ops.q (q_conv iK_5 iK_3 rfl (IntWalk.i64_in _ (by omega))) ?_
  refine Ops.q (q_mv rfl) ?_
  refine Ops.q (q_ar (v := (s0 : Int)) rfl rfl ((by rw [a_rem (by omega) (by omega), hs0]))) ?_
  refine Ops.q (q_bld [.slice none 0 0, .int .i64 (s0 : Int), .slice none 0 0] pls_36 zc_36 rfl rfl) ?_
  refine Ops.alc [.slice none 0 0, .int .i64 0, .slice none 0 0] zc_36 ?_
  intro b2
  refine Ops.stB [.slice none 0 0, .int .i64 (s0 : Int), .slice none 0 0] [.slice none 0 0, .int .i64 (s0 : Int), .slice none 0 0] sz_36 rfl rfl rfl (one rfl) .here rfl rfl ?_
  refine Ops.to rfl ?_
  refine Cd.seq ?_
  refine Cd.seq ?_
  refine Cd.region ?_
  refine Ops.q (q_mv rfl) ?_
  refine Ops.q (q_mv rfl) ?_
  refine Ops.to rfl ?_
  refine Cd.block ?_
  refine Cd.lp (σ := Nat × List NL × Option Addr × Nat × Option Addr × Nat) (fun s => s.1 ≤ q ∧ s.2.1.map (fun l : NL => l.2) = mdNx q n xs s.1) (fun s => [(2, .slice xa xs.length xc), (3, .int .u32 ab), (10, .pointer (some ⟨b1, 0, none⟩)), (11, .int .i64 (q : Int)), (12, .int .i64 (n : Int)), (13, .pointer (some ⟨b2, 0, none⟩)), (31, .int .i64 (q : Int)), (32, .int .i64 (s.1 : Int))]) (fun s => [blk b2 36 [.slice s.2.2.1 s.2.1.length s.2.2.2.1, .int .i64 (s0 : Int), .slice s.2.2.2.2.1 s.1 s.2.2.2.2.2], row s.2.2.1 s.2.2.2.1 26 1 s.2.1.length (s.2.1.flatMap eNL), rd (nlR s.2.1), row s.2.2.2.2.1 s.2.2.2.2.2 4 1 s.1 ((accL ab s.1).flatMap eBool), blk b1 36 [.slice none 0 0, .int .i64 0, .slice none 0 0]]) (fun s => q - s.1) (0, [], none, 0, none, 0) ⟨Nat.zero_le _, rfl⟩ ⟨rfl, rfl, rfl, rfl, rfl, rfl, rfl, rfl, trivial⟩ (fun _ hs => by have h1 := rdNew (φ := nlR []) (Sat.nilRow (Sat.nilRow (((hs.pull (.there .here)).pull (.there .here))) 4 1) 26 1) (by intro w l hl; cases hl); exact (h1.pull (.there .here)).pull (.there (.there (.there .here)))) ?_
  rintro ⟨i, lz, na, nc, aa, ac⟩ hI
  dsimp only at hI
  change Cd _ _ _ _ _ _ _ [(2, .slice xa xs.length xc), (3, .int .u32 ab), (10, .pointer (some ⟨b1, 0, none⟩)), (11, .int .i64 (q : Int)), (12, .int .i64 (n : Int)), (13, .pointer (some ⟨b2, 0, none⟩)), (31, .int .i64 (q : Int)), (32, .int .i64 (i : Int))] ([blk b2 36 [.slice na lz.length nc, .int .i64 (s0 : Int), .slice aa i ac], row na nc 26 1 lz.length (lz.flatMap eNL), rd (nlR lz), row aa ac 4 1 i ((accL ab i).flatMap eBool), blk b1 36 [.slice none 0 0, .int .i64 0, .slice none 0 0]])
  have hI0 := hI
  have hI1 := hI.1
  have hlz : lz.length = i := len_of_map hI.2 (mdNx_len ..)
  refine Cd.seq ?_
  refine Cd.region ?_
  by_cases hk : (i : Int) < (q : Int)
  · refine Ops.q (q_cmp rfl rfl (c_lt hk)) ?_
    refine Ops.to rfl ?_
    refine Cd.seq ?_
    refine Cd.cond_t rfl ?_
    refine Cd.skipTo rfl ?_
    refine Cd.seq ?_
    refine Cd.block ?_
    refine Cd.seq ?_
    refine Cd.region ?_
    refine Ops.q (q_mv rfl) ?_
    refine Ops.q (q_asg rfl) ?_
    refine Ops.to rfl ?_
    refine Cd.seq ?_
    refine Cd.region ?_
    refine Ops.q (q_asg rfl) ?_
    refine Ops.to rfl ?_
    refine Cd.seq ?_
    refine Cd.seq ?_
    refine Cd.region ?_
    refine Ops.q (q_mv rfl) ?_
    refine Ops.q (q_mv rfl) ?_
    refine Ops.to rfl ?_
    refine Cd.block ?_
    refine Cd.lp (σ := Nat × Option Addr × Nat) (fun s => s.1 ≤ n) (fun s => [(2, .slice xa xs.length xc), (3, .int .u32 ab), (10, .pointer (some ⟨b1, 0, none⟩)), (11, .int .i64 (q : Int)), (12, .int .i64 (n : Int)), (13, .pointer (some ⟨b2, 0, none⟩)), (14, .int .i64 (i : Int)), (31, .int .i64 (q : Int)), (32, .int .i64 (i : Int)), (15, .slice s.2.1 s.1 s.2.2), (35, .int .i64 (n : Int)), (36, .int .i64 (s.1 : Int))]) (fun s => [row s.2.1 s.2.2 3 1 s.1 ((mdRow q n xs i s.1).flatMap eInt), blk b2 36 [.slice na lz.length nc, .int .i64 (s0 : Int), .slice aa i ac], row na nc 26 1 lz.length (lz.flatMap eNL), rd (nlR lz), row aa ac 4 1 i ((accL ab i).flatMap eBool), blk b1 36 [.slice none 0 0, .int .i64 0, .slice none 0 0]]) (fun s => n - s.1) (0, none, 0) (Nat.zero_le _) ⟨rfl, rfl, rfl, rfl, rfl, rfl, rfl, rfl, rfl, rfl, rfl, rfl, trivial⟩ (fun _ hs => by have h1 := ((((((hs.pull (.there (.there (.there (.there .here))))).pull (.there (.there (.there (.there .here))))).pull (.there (.there (.there (.there .here))))).pull (.there (.there (.there (.there .here))))).pull (.there (.there (.there (.there .here)))))).nilRow 3 1; exact h1) ?_
    rintro ⟨c, ra, rc⟩ hI
    dsimp only at hI
    change Cd _ _ _ _ _ _ _ [(2, .slice xa xs.length xc), (3, .int .u32 ab), (10, .pointer (some ⟨b1, 0, none⟩)), (11, .int .i64 (q : Int)), (12, .int .i64 (n : Int)), (13, .pointer (some ⟨b2, 0, none⟩)), (14, .int .i64 (i : Int)), (31, .int .i64 (q : Int)), (32, .int .i64 (i : Int)), (15, .slice ra c rc), (35, .int .i64 (n : Int)), (36, .int .i64 (c : Int))] ([row ra rc 3 1 c ((mdRow q n xs i c).flatMap eInt), blk b2 36 [.slice na lz.length nc, .int .i64 (s0 : Int), .slice aa i ac], row na nc 26 1 lz.length (lz.flatMap eNL), rd (nlR lz), row aa ac 4 1 i ((accL ab i).flatMap eBool), blk b1 36 [.slice none 0 0, .int .i64 0, .slice none 0 0]])
    refine Cd.seq ?_
    refine Cd.region ?_
    by_cases hkc : (c : Int) < (n : Int)
    · refine Ops.q (q_cmp rfl rfl (c_lt hkc)) ?_
      refine Ops.to rfl ?_
      refine Cd.seq ?_
      refine Cd.cond_t rfl ?_
      refine Cd.skipTo rfl ?_
      refine Cd.seq ?_
      refine Cd.block ?_
      refine Cd.seq ?_
      refine Cd.region ?_
      refine Ops.q (q_mv rfl) ?_
      refine Ops.q (q_asg rfl) ?_
      refine Ops.to rfl ?_
      refine Cd.seq ?_
      refine Cd.region ?_
      refine Ops.q (q_asg rfl) ?_
      refine Ops.to rfl ?_
      refine Cd.seq ?_
      refine Cd.seq ?_
      refine Cd.region ?_
      refine Ops.q (q_mv rfl) ?_
      refine Ops.q (q_len esz_92 rfl) ?_
      by_cases hxl : 0 < (xs.length : Int)
      · refine Ops.q (q_cmp rfl rfl (c_gt hxl)) ?_
        refine Ops.to rfl ?_
        refine Cd.cond_t rfl ?_
        have hsn : i * n ≤ 8 * 4 := Nat.mul_le_mul (by omega) (by omega)
        have hmod : (i * n + c) % xs.length < xs.length := Nat.mod_lt _ (by omega)
        obtain ⟨x3, hx4⟩ : ∃ x, xs[((i * n + c) % xs.length)]? = some x := ⟨_, List.getElem?_eq_getElem (by omega)⟩
        obtain ⟨ab5, ao6, rfl⟩ := RoL.pos hX eU8_len hx4
        have hxb := hb x3 (List.mem_iff_getElem?.2 ⟨_, hx4⟩)
        have hto : mdTo q n xs i c = x3 % (q : Int) := by unfold mdTo; rw [if_neg (by omega), getD_at hx4]
        refine Cd.region ?_
        refine Ops.q (q_mv rfl) ?_
        refine Ops.q (q_mv rfl) ?_
        refine Ops.q (q_mv rfl) ?_
        refine Ops.q (q_ar (v := ((i * n : Nat) : Int)) rfl rfl (a_mulN (by omega))) ?_
        refine Ops.q (q_mv rfl) ?_
        refine Ops.q (q_ar (v := ((i * n + c : Nat) : Int)) rfl rfl (a_addN (by omega))) ?_
        refine Ops.q (q_mv rfl) ?_
        refine Ops.q (q_len esz_92 rfl) ?_
        refine Ops.q (q_ar (v := ((((i * n + c) % xs.length : Nat)) : Int)) rfl rfl (a_remN (by omega))) ?_
        refine Ops.q (q_ix (k := ((i * n + c) % xs.length)) esz_92 rfl rfl (by omega)) ?_
        refine Ops.q (q_ldR isA_5 rfl (hX.at0 eU8_len hx4 rfl)) ?_
        refine Ops.q (q_conv iK_5 iK_3 rfl (IntWalk.i64_in _ (by omega))) ?_
        refine Ops.q (q_mv rfl) ?_
        refine Ops.q (q_ar rfl rfl (a_rem (by omega) (by omega))) ?_
        refine Ops.q (q_asg rfl) ?_
        refine Ops.to rfl ?_
        refine Cd.region ?_
        refine Ops.q (q_mv rfl) ?_
        refine Ops.q (q_mv rfl) ?_
        refine Ops.lit [.int .i64 (x3 % (q : Int))] el_26 zsb_3 rfl rfl ⟨by decide, by decide⟩ rfl ?_
        intro b7
        refine Ops.app (news := [.int .i64 (x3 % (q : Int))]) el_26 zsb_3 (by decide) rfl rfl (fun _ hs => hs.ownRo .here) (fun _ hs => (hs.pull .here).drop) (fun _ _ => .here) rfl (one rfl) (by omega) (by omega) ?_
        intro a8 c9
        refine Ops.q (q_asg rfl) ?_
        refine Ops.to rfl ?_
        refine Cd.region ?_
        refine Ops.q (q_ar rfl rfl (a_inc (by omega))) ?_
        refine Ops.q (q_mv rfl) ?_
        refine Ops.rnd ((c + 1, a8, c9)) rfl (by dsimp only; exact (by omega)) (by dsimp only; omega) ⟨rfl, rfl, rfl, rfl, rfl, rfl, rfl, rfl, rfl, rfl, rfl, rfl, trivial⟩ (fun _ hs => by have h1 := ((((((hs.pull (.there (.there (.there (.there (.there .here)))))).pull (.there (.there (.there (.there (.there .here)))))).pull (.there (.there (.there (.there (.there .here)))))).pull (.there (.there (.there (.there (.there .here)))))).pull (.there (.there (.there (.there (.there .here)))))).pull (.there (.there (.there (.there (.there .here)))))); (try dsimp only); rw [mdRow_succ, fm_app, hto]; exact h1) 
      · refine Ops.q (q_cmp rfl rfl (c_ngt (by omega))) ?_
        have hto : mdTo q n xs i c = 0 := by unfold mdTo; rw [if_pos (by omega)]
        refine Ops.to rfl ?_
        refine Cd.cond_f rfl ?_
        refine Cd.skipTo rfl ?_
        refine Cd.region ?_
        refine Ops.q (q_mv rfl) ?_
        refine Ops.q (q_mv rfl) ?_
        refine Ops.lit [.int .i64 0] el_26 zsb_3 rfl rfl ⟨by decide, by decide⟩ rfl ?_
        intro b10
        refine Ops.app (news := [.int .i64 0]) el_26 zsb_3 (by decide) rfl rfl (fun _ hs => hs.ownRo .here) (fun _ hs => (hs.pull .here).drop) (fun _ _ => .here) rfl (one rfl) (by omega) (by omega) ?_
        intro a11 c12
        refine Ops.q (q_asg rfl) ?_
        refine Ops.to rfl ?_
        refine Cd.region ?_
        refine Ops.q (q_ar rfl rfl (a_inc (by omega))) ?_
        refine Ops.q (q_mv rfl) ?_
        refine Ops.rnd ((c + 1, a11, c12)) rfl (by dsimp only; exact (by omega)) (by dsimp only; omega) ⟨rfl, rfl, rfl, rfl, rfl, rfl, rfl, rfl, rfl, rfl, rfl, rfl, trivial⟩ (fun _ hs => by have h1 := ((((((hs.pull (.there (.there (.there (.there (.there .here)))))).pull (.there (.there (.there (.there (.there .here)))))).pull (.there (.there (.there (.there (.there .here)))))).pull (.there (.there (.there (.there (.there .here)))))).pull (.there (.there (.there (.there (.there .here)))))).pull (.there (.there (.there (.there (.there .here)))))); (try dsimp only); rw [mdRow_succ, fm_app, hto]; exact h1) 
    · refine Ops.q (q_cmp rfl rfl (c_nlt (by omega))) ?_
      have hc9 : c = n := by omega
      rw [hc9]
      refine Ops.to rfl ?_
      refine Cd.seq ?_
      refine Cd.cond_f rfl ?_
      refine Cd.exitTo rfl ?_
      refine Cd.seq ?_
      refine Cd.region ?_
      refine Ops.q (q_fa fo_36_0 rfl) ?_
      refine Ops.q (q_ldB isA_22 rfl (.there .here) rfl) ?_
      refine Ops.q (q_mv rfl) ?_
      refine Ops.lit [.slice ra n rc] el_22 zsb_26 rfl rfl ⟨by decide, by decide⟩ rfl ?_
      intro b13
      refine Ops.app (news := [.slice ra n rc]) el_22 zsb_26 (by decide) rfl rfl (fun _ hs => hs.ownRo .here) (fun _ hs => (hs.pull .here).drop) (fun _ _ => (.there (.there .here))) rfl (one rfl) (by omega) (by omega) ?_
      intro a14 c15
      refine Ops.q (q_fa fo_36_0 rfl) ?_
      refine Ops.stB [.slice a14 (lz.length + 1) c15] [.slice a14 (lz.length + 1) c15, .int .i64 (s0 : Int), .slice aa i ac] sz_22 rfl rfl rfl (one rfl) (.there .here) rfl rfl ?_
      refine Ops.to rfl ?_
      refine Cd.draw rfl (by kernel_rfl) (.cons (.there .here) .nil) ?_
      intro F16 St17 hP18 hF19 hR20
      refine Dr.q (i := 0) hP18 rfl (by kernel_rfl) (q_fa fo_36_2 rfl) ?_
      refine Dr.q (i := 1) hP18 rfl (by kernel_rfl) (q_ldB isA_23 rfl .here rfl) ?_
      refine Dr.q (i := 2) hP18 rfl (by kernel_rfl) (q_mv rfl) ?_
      refine Dr.q (i := 3) hP18 rfl (by kernel_rfl) (q_mv rfl) ?_
      refine Dr.q (i := 4) hP18 rfl (by kernel_rfl) (q_shr (v := shA ab i) (j := i) rfl rfl rfl) ?_
      refine Dr.q (i := 5) hP18 rfl (by kernel_rfl) (q_and (v := anA ab i) rfl rfl rfl) ?_
      refine Dr.q (i := 6) hP18 rfl (by kernel_rfl) (q_cmp rfl rfl rfl) ?_
      refine Dr.e (i := 7) rfl (by kernel_rfl) ?_
      refine Ops.lit [.bool (anA ab i == 1)] el_23 zsb_4 rfl rfl ⟨by decide, by decide⟩ rfl ?_
      intro b21
      refine Dr.back (fun _ hs => hF19 (.there .here) hs) ?_
      refine Dr.e (i := 8) rfl (by kernel_rfl) ?_
      refine Ops.app (news := [.bool (anA ab i == 1)]) el_23 zsb_4 (by decide) rfl rfl (fun _ hs => hs.ownRo .here) (fun _ hs => (hs.pull .here).drop) (fun _ _ => (.there (.there (.there (.there .here))))) rfl (one rfl) (by omega) (by omega) ?_
      intro a22 c23
      refine Dr.back (fun _ hs => hF19 .here hs) ?_
      refine Dr.tail 9 (by kernel_rfl) ?_
      refine Ops.sat ?_ (fun _ hs => hR20 .here hs)
      refine Ops.q (q_fa fo_36_2 rfl) ?_
      refine Ops.stB [.slice a22 (i + 1) c23] [.slice a14 (lz.length + 1) c15, .int .i64 (s0 : Int), .slice a22 (i + 1) c23] sz_23 rfl rfl rfl (one rfl) .here rfl rfl ?_
      refine Ops.to rfl ?_
      refine Cd.region ?_
      refine Ops.q (q_ar rfl rfl (a_inc (by omega))) ?_
      refine Ops.q (q_mv rfl) ?_
      refine Ops.rnd ((i + 1, lz ++ [((ra, rc), (mdRow q n xs i n))], a14, c15, a22, c23)) rfl (by dsimp only; exact (⟨by omega, by rw [List.map_append, hI0.2, mdNx_succ]; rfl⟩)) (by dsimp only; omega) ⟨rfl, rfl, rfl, rfl, rfl, rfl, rfl, rfl, trivial⟩ (fun _ hs => by have h1 := ((((((hs.pull (.there (.there (.there (.there (.there .here)))))).pull (.there (.there (.there (.there (.there .here)))))).pull (.there (.there (.there (.there .here))))).pull (.there (.there (.there .here)))).pull (.there (.there (.there (.there .here))))).pull (.there (.there (.there (.there (.there .here)))))); have h2 := rdGrow h1 (fun w p q => nlR_grow (c := rc) w p q); (try dsimp only); rw [fm_app, show [((ra, rc), (mdRow q n xs i n))].flatMap eNL = [.slice ra n rc] from by simp [eNL, mdRow_len], List.length_append, accL_succ, fm_app]; exact (h2.pull (.there (.there .here))).pull (.there (.there .here))) 
  · refine Ops.q (q_cmp rfl rfl (c_nlt (by omega))) ?_
    refine Ops.to rfl ?_
    refine Cd.seq ?_
    refine Cd.cond_f rfl ?_
    refine Cd.exitTo rfl ?_
    refine Cd.seq ?_
    refine Cd.region ?_
    refine Ops.q (q_ldBN [.slice na lz.length nc, .int .i64 (s0 : Int), .slice aa i ac] isA_36 sz_36 rfl .here rfl) ?_
    refine Ops.stB [.slice na lz.length nc, .int .i64 (s0 : Int), .slice aa i ac] [.slice na lz.length nc, .int .i64 (s0 : Int), .slice aa i ac] sz_36 rfl rfl rfl (one rfl) (.there (.there (.there (.there .here)))) rfl rfl ?_
    refine Ops.to rfl ?_
    refine Cd.rt (fn := Try.f40) [.agg [.slice na lz.length nc, .int .i64 (s0 : Int), .slice aa i ac].toArray] (by with_reducible repeat (first | exact rq_here | apply rq_then | apply rq_block)) rfl ⟨⟨_, _, rfl, fun _ hs => run_loadN isA_36 sz_36 (fun o u hu => Sat.atB (.there (.there (.there (.there .here)))) (by rw [Nat.zero_add]; exact hu) hs)⟩, trivial⟩ ?_
    intro w' hs'
    have hs9 : i = q := by omega
    have h1 := (((((hs'.pull (.there (.there (.there .here)))).pull (.there (.there .here))).pull (.there (.there (.there .here)))).pull (.there (.there (.there .here)))).drop.pull (.there (.there (.there .here)))).drop
    have h2 := rdGrow h1 (φ' := fun w => RoLL w na lz) (fun w p q => ⟨q, p⟩)
    have h3 := rdGrow h2 (φ' := fun w => RoLL w na lz ∧ RoL w aa eBool (accL ab i)) (fun w p q => ⟨p, q⟩)
    rw [hs9] at h3
    have hz9 := hI.2
    rw [hs9] at hz9 hlz
    exact ⟨⟨((na, nc), lz, (aa, ac)), hz9⟩, by rw [hlz, hs9]; rfl, h3⟩
end Go.Proofs.Ytilcdghliigngaa
namespace Go.Proofs.Ytilcdghliigngaa
open Go.RowKit Go.Proofs.YtilcdghliigngaaGl Go.Proofs.YtilcdghliigngaaPm
set_option linter.unusedVariables false
set_option linter.unusedSimpArgs false
theorem numbers_n (xa ya : Option Addr) (xc yc : Nat) (xs ys : List Int) (m : Nat) (hm : ys.length = m) (w : World) (hX : RoL w xa eInt xs) (hY : RoL w ya eInt ys) (hl : xs.length ≤ 9223372036854775807) : Calls Try.prog 23 [.slice xa xs.length xc, .slice ya m yc].toArray w fun e w' => e = .returned (.bool (decide (xs = ys))) ∧ Sat w w' [] := by
  subst hm; exact numbers_c xa ya xc yc xs ys w hX hY hl
theorem automata_c (sb yb ab tb : Int) (xa : Option Addr) (xc : Nat) (xs : List Int) (ua : Option Addr) (uc : Nat) (us : List Int) (w : World) (hX : RoL w xa eU8 xs) (hb : ∀ x ∈ xs, 0 ≤ x ∧ x ≤ 255) (hU : RoL w ua eU8 us) (hbu : ∀ x ∈ us, 0 ≤ x ∧ x ≤ 255) (hsb : 0 ≤ sb ∧ sb ≤ 255) (hyb : 0 ≤ yb ∧ yb ≤ 255) (htb : 0 ≤ tb ∧ tb ≤ 255) : Calls Try.prog 8 [.int .u8 sb, .int .u8 yb, .slice xa xs.length xc, .int .u32 ab, .int .u8 tb, .slice ua us.length uc].toArray w fun e w' => e = .returned (.bool true) ∧ Sat w w' [] := by
  refine fstart Try.func8 rfl rfl (Sat.nil w) ?_
  refine Cd.seq ?_
  refine Cd.region ?_
  refine Ops.q (q_asg rfl) ?_
  refine Ops.to rfl ?_
  refine Cd.seq ?_
  refine Cd.seq ?_
  refine Cd.region ?_
  refine Ops.q (q_mv rfl) ?_
  refine Ops.q (q_len esz_92 rfl) ?_
  by_cases h1 : 40 < (us.length : Int)
  · refine Ops.q (q_cmp rfl rfl (c_gt h1)) ?_
    refine Ops.to rfl ?_
    refine Cd.cond_t rfl ?_
    refine Cd.seq ?_
    refine Cd.region ?_
    refine Ops.cp en_13 rfl (fun w hs => works_c w) ?_
    refine Ops.q (q_asg rfl) ?_
    refine Ops.to rfl ?_
    refine Cd.rt (fn := Try.f8) [.bool true] (by with_reducible repeat (first | exact rq_here | apply rq_then | apply rq_block)) rfl ⟨rfl, trivial⟩ ?_
    intro w' hs'
    exact ⟨rfl, hs'.none⟩
  · refine Ops.q (q_cmp rfl rfl (c_ngt (by omega))) ?_
    refine Ops.to rfl ?_
    refine Cd.cond_f rfl ?_
    refine Cd.skipTo rfl ?_
    refine Cd.seq ?_
    refine Cd.region ?_
    obtain ⟨q, hq⟩ : ∃ q : Nat, 1 + sb % 8 = (q : Int) := ⟨(1 + sb % 8).toNat, by omega⟩
    obtain ⟨n, hn⟩ : ∃ n : Nat, 1 + yb % 4 = (n : Int) := ⟨(1 + yb % 4).toNat, by omega⟩
    have hq8 : 1 ≤ q ∧ q ≤ 8 := by omega
    have hn4 : 1 ≤ n ∧ n ≤ 4 := by omega
    obtain ⟨s0, hs0⟩ : ∃ s0 : Nat, tb % (q : Int) = (s0 : Int) := ⟨(tb % (q : Int)).toNat, by have := Int.emod_nonneg tb (show (q : Int) ≠ 0 by omega); omega⟩
    have hs0q : s0 < q := by have := Int.emod_lt_of_pos tb (show (0 : Int) < q by omega); omega
    have hOK := aut_made (us := us) (acc := accL ab q) hq8 hn4 hs0q (fun x hx => (hb x hx).1) (accL_len ..) (fun x hx => (hbu x hx).1)
    have hWl := wdL_len n us
    have hqn : q * n ≤ 8 * 4 := Nat.mul_le_mul hq8.2 hn4.2
    have hol := hOK.out_len
    have hNl : (mdNx q n xs q).length = q := mdNx_len ..
    have hAl : (accL ab q).length = q := accL_len ..
    refine Ops.q (q_mv rfl) ?_
    refine Ops.q (q_mv rfl) ?_
    refine Ops.q (q_mv rfl) ?_
    refine Ops.q (q_mv rfl) ?_
    refine Ops.q (q_mv rfl) ?_
    refine Ops.cl (α := AutoX (mdNx q n xs q)) (v := fun r => .agg [.slice r.1.1.1 q r.1.1.2, .int .i64 (s0 : Int), .slice r.1.2.2.1 q r.1.2.2.2].toArray) (B := fun r => [rd (fun w => RoLL w r.1.1.1 r.1.2.1 ∧ RoL w r.1.2.2.1 eBool (accL ab q))]) en_40 rfl (fun w hs => made_c sb yb ab tb q n s0 _ _ xs w (hX.later hs.below) hb hsb hyb htb hq hn hs0) ?_
    rintro ⟨⟨⟨na, nc⟩, lz, ⟨aa, ac⟩⟩, hz⟩
    have hlq : lz.length = q := len_of_map hz (mdNx_len ..)
    obtain ⟨⟨⟨r0a, r0c⟩, r0⟩, hl0⟩ : ∃ x, lz[0]? = some x := ⟨_, List.getElem?_eq_getElem (by omega)⟩
    have hr0n : r0.length = n := hOK.row _ (List.mem_iff_getElem?.2 ⟨0, get_of_map hz hl0⟩)
    obtain ⟨b0, hb0⟩ : ∃ x, (accL ab q)[0]? = some x := ⟨_, List.getElem?_eq_getElem (by omega)⟩
    refine Ops.ropos (a := na) (cs := lz.flatMap eNL) (.here) (fun w h => h.1.1) (fm_pos eNL_len hl0) ?_
    rintro nb no rfl
    refine Ops.ropos (a := aa) (cs := (accL ab q).flatMap eBool) (.here) (fun w h => h.2) (fm_pos eBool_len hb0) ?_
    rintro bb bo rfl
    refine Ops.alc [.slice none 0 0, .int .i64 0, .slice none 0 0] zc_36 ?_
    intro b2
    refine Ops.stB [.slice (some ⟨nb, no, none⟩) q nc, .int .i64 (s0 : Int), .slice (some ⟨bb, bo, none⟩) q ac] [.slice (some ⟨nb, no, none⟩) q nc, .int .i64 (s0 : Int), .slice (some ⟨bb, bo, none⟩) q ac] sz_36 rfl rfl rfl (one rfl) .here rfl rfl ?_
    refine Ops.to rfl ?_
    refine Cd.seq ?_
    refine Cd.draw rfl (by kernel_rfl) (.cons .here (.cons .here .nil)) ?_
    intro F3 St4 hP5 hF6 hR7
    refine Dr.q (i := 0) hP5 rfl (by kernel_rfl) (q_fa fo_36_0 rfl) ?_
    refine Dr.q (i := 1) hP5 rfl (by kernel_rfl) (q_ldB isA_22 rfl .here rfl) ?_
    refine Dr.q (i := 2) hP5 rfl (by kernel_rfl) (q_len esz_22 rfl) ?_
    refine Dr.q (i := 3) hP5 rfl (by kernel_rfl) (q_fa fo_36_0 rfl) ?_
    refine Dr.q (i := 4) hP5 rfl (by kernel_rfl) (q_ldB isA_22 rfl .here rfl) ?_
    refine Dr.q (i := 5) hP5 rfl (by kernel_rfl) (q_ix (k := 0) esz_22 rfl rfl (by omega)) ?_
    refine Dr.q (i := 6) hP5 rfl (by kernel_rfl) (q_ld (v := .slice r0a n r0c) isA_26 rfl (fun w hs => RoL.at0 ((hs.read (.there .here)).1.1) eNL_len hl0 (by rw [← hr0n]; rfl))) ?_
    refine Dr.q (i := 7) hP5 rfl (by kernel_rfl) (q_len esz_26 rfl) ?_
    refine Dr.q (i := 8) hP5 rfl (by kernel_rfl) (q_asg rfl) ?_
    refine Dr.tail 9 (by kernel_rfl) ?_
    refine Ops.sat ?_ (fun _ hs => hR7 .here hs)
    refine Ops.q (q_asg rfl) ?_
    refine Ops.to rfl ?_
    refine Cd.seq ?_
    refine Cd.region ?_
    refine Ops.q (q_asg rfl) ?_
    refine Ops.to rfl ?_
    refine Cd.seq ?_
    refine Cd.region ?_
    refine Ops.q (q_fa fo_36_1 rfl) ?_
    refine Ops.q (q_ldB isA_3 rfl .here rfl) ?_
    refine Ops.q (q_asg rfl) ?_
    refine Ops.to rfl ?_
    refine Cd.seq ?_
    refine Cd.region ?_
    refine Ops.q (q_mv rfl) ?_
    refine Ops.lit [.int .i64 (s0 : Int)] el_26 zsb_3 rfl rfl ⟨by decide, by decide⟩ rfl ?_
    intro b8
    refine Ops.q (q_asg rfl) ?_
    refine Ops.to rfl ?_
    refine Cd.seq ?_
    refine Cd.seq ?_
    refine Cd.region ?_
    refine Ops.q (q_mv rfl) ?_
    refine Ops.q (q_len esz_92 rfl) ?_
    refine Ops.q (q_mv rfl) ?_
    refine Ops.to rfl ?_
    refine Cd.block ?_
    refine Cd.lp (σ := Nat × Option Addr × Nat × Option Addr × Nat) (fun s => s.1 ≤ us.length) (fun s => [(13, .pointer (some ⟨b2, 0, none⟩)), (14, .int .i64 (q : Int)), (15, .int .i64 (n : Int)), (55, .slice ua us.length uc), (56, .int .i64 (us.length : Int)), (16, .slice s.2.1 s.1 s.2.2.1), (17, .int .i64 (((wN (mdNx q n xs q) (s0 : Int) (wdL n us) s.1) : Nat) : Int)), (18, .slice s.2.2.2.1 (s.1 + 1) s.2.2.2.2), (57, .int .i64 (s.1 : Int))]) (fun s => [row s.2.1 s.2.2.1 3 1 s.1 (((wdL n us).take s.1).flatMap eInt), row s.2.2.2.1 s.2.2.2.2 3 1 (s.1 + 1) ((wantL (mdNx q n xs q) (s0 : Int) (wdL n us) (s.1 + 1)).flatMap eInt), blk b2 36 [.slice (some ⟨nb, no, none⟩) q nc, .int .i64 (s0 : Int), .slice (some ⟨bb, bo, none⟩) q ac], rd (fun w => RoLL w (some ⟨nb, no, none⟩) lz ∧ RoL w (some ⟨bb, bo, none⟩) eBool (accL ab q))]) (fun s => us.length - s.1) (0, none, 0, some ⟨b8, 0, none⟩, 1) (Nat.zero_le _) ⟨rfl, rfl, rfl, rfl, rfl, rfl, rfl, rfl, rfl, trivial⟩ (fun _ hs => by have h1 := ((((hs.pull (.there (.there .here))).pull (.there (.there .here))).pull (.there (.there .here)))).nilRow 3 1; exact h1) ?_
    rintro ⟨k, wa, wc, va, vc⟩ hI
    dsimp only at hI
    change Cd _ _ _ _ _ _ _ [(13, .pointer (some ⟨b2, 0, none⟩)), (14, .int .i64 (q : Int)), (15, .int .i64 (n : Int)), (55, .slice ua us.length uc), (56, .int .i64 (us.length : Int)), (16, .slice wa k wc), (17, .int .i64 (((wN (mdNx q n xs q) (s0 : Int) (wdL n us) k) : Nat) : Int)), (18, .slice va (k + 1) vc), (57, .int .i64 (k : Int))] ([row wa wc 3 1 k (((wdL n us).take k).flatMap eInt), row va vc 3 1 (k + 1) ((wantL (mdNx q n xs q) (s0 : Int) (wdL n us) (k + 1)).flatMap eInt), blk b2 36 [.slice (some ⟨nb, no, none⟩) q nc, .int .i64 (s0 : Int), .slice (some ⟨bb, bo, none⟩) q ac], rd (fun w => RoLL w (some ⟨nb, no, none⟩) lz ∧ RoL w (some ⟨bb, bo, none⟩) eBool (accL ab q))])
    refine Cd.seq ?_
    refine Cd.region ?_
    by_cases hk : (k : Int) < (us.length : Int)
    · refine Ops.q (q_cmp rfl rfl (c_lt hk)) ?_
      obtain ⟨x, hx⟩ : ∃ x, us[k]? = some x := ⟨_, List.getElem?_eq_getElem (by omega)⟩
      have hxb := hbu x (List.mem_iff_getElem?.2 ⟨k, hx⟩)
      obtain ⟨u, rfl⟩ : ∃ u : Nat, x = (u : Int) := ⟨x.toNat, by omega⟩
      obtain ⟨ub, uo, rfl⟩ := RoL.pos hU eU8_len hx
      have hWk : (wdL n us)[k]? = some ((u % n : Nat) : Int) := by unfold wdL; rw [List.getElem?_map, hx]; rfl
      have hwk : (wN (mdNx q n xs q) (s0 : Int) (wdL n us) k) < q := by have := hOK.wN_lt k; rwa [hNl] at this
      obtain ⟨⟨⟨ra, rc⟩, r⟩, hr⟩ : ∃ x, lz[(wN (mdNx q n xs q) (s0 : Int) (wdL n us) k)]? = some x := ⟨_, List.getElem?_eq_getElem (by omega)⟩
      have hrm := List.mem_iff_getElem?.2 ⟨_, hr⟩
      have hrX := get_of_map hz hr
      have hrl : r.length = n := hOK.row _ (List.mem_iff_getElem?.2 ⟨_, hrX⟩)
      have hun : u % n < n := Nat.mod_lt _ (by omega)
      have hnx := hOK.wN_step hrX hWk
      refine Ops.ropos (a := ra) (cs := r.flatMap eInt) (.there (.there (.there .here))) (fun w h => h.1.2 _ hrm) (fm_pos eInt_len hnx) ?_
      rintro rb ro rfl
      refine Ops.to rfl ?_
      refine Cd.seq ?_
      refine Cd.cond_t rfl ?_
      refine Cd.skipTo rfl ?_
      refine Cd.seq ?_
      refine Cd.block ?_
      refine Cd.seq ?_
      refine Cd.region ?_
      refine Ops.q (q_ix (k := k) esz_92 rfl rfl (by omega)) ?_
      refine Ops.q (q_ldR isA_5 rfl (hU.at0 eU8_len hx rfl)) ?_
      refine Ops.q (q_asg rfl) ?_
      refine Ops.to rfl ?_
      refine Cd.seq ?_
      refine Cd.region ?_
      refine Ops.q (q_mv rfl) ?_
      refine Ops.q (q_mv rfl) ?_
      refine Ops.q (q_conv iK_5 iK_3 rfl (IntWalk.i64_in _ (by omega))) ?_
      refine Ops.q (q_mv rfl) ?_
      refine Ops.q (q_ar (v := ((u % n : Nat) : Int)) rfl rfl (a_remN (by omega))) ?_
      refine Ops.lit [.int .i64 ((u % n : Nat) : Int)] el_26 zsb_3 rfl rfl ⟨by decide, by decide⟩ rfl ?_
      intro b9
      refine Ops.app (news := [.int .i64 ((u % n : Nat) : Int)]) el_26 zsb_3 (by decide) rfl rfl (fun _ hs => hs.ownRo .here) (fun _ hs => (hs.pull .here).drop) (fun _ _ => .here) rfl (one rfl) (by omega) (by omega) ?_
      intro a10 c11
      refine Ops.q (q_asg rfl) ?_
      refine Ops.to rfl ?_
      refine Cd.seq ?_
      refine Cd.draw rfl (by kernel_rfl) (.cons (.there (.there .here)) (.cons (.there (.there .here)) .nil)) ?_
      intro F12 St13 hP14 hF15 hR16
      refine Dr.q (i := 0) hP14 rfl (by kernel_rfl) (q_fa fo_36_0 rfl) ?_
      refine Dr.q (i := 1) hP14 rfl (by kernel_rfl) (q_ldB isA_22 rfl .here rfl) ?_
      refine Dr.q (i := 2) hP14 rfl (by kernel_rfl) (q_mv rfl) ?_
      refine Dr.q (i := 3) hP14 rfl (by kernel_rfl) (q_ix (k := (wN (mdNx q n xs q) (s0 : Int) (wdL n us) k)) esz_22 rfl rfl (by omega)) ?_
      refine Dr.q (i := 4) hP14 rfl (by kernel_rfl) (q_ld (v := .slice (some ⟨rb, ro, none⟩) n rc) isA_26 rfl (fun w hs => RoL.at0 ((hs.read (.there .here)).1.1) eNL_len hr (by rw [← hrl]; rfl))) ?_
      refine Dr.q (i := 5) hP14 rfl (by kernel_rfl) (q_mv rfl) ?_
      refine Dr.q (i := 6) hP14 rfl (by kernel_rfl) (q_conv iK_5 iK_3 rfl (IntWalk.i64_in _ (by omega))) ?_
      refine Dr.q (i := 7) hP14 rfl (by kernel_rfl) (q_mv rfl) ?_
      refine Dr.q (i := 8) hP14 rfl (by kernel_rfl) (q_ar (v := ((u % n : Nat) : Int)) rfl rfl (a_remN (by omega))) ?_
      refine Dr.q (i := 9) hP14 rfl (by kernel_rfl) (q_ix (k := (u % n)) esz_26 rfl rfl (by omega)) ?_
      refine Dr.q (i := 10) hP14 rfl (by kernel_rfl) (q_ld (v := .int .i64 (((wN (mdNx q n xs q) (s0 : Int) (wdL n us) (k + 1)) : Nat) : Int)) isA_3 rfl (fun w hs => RoL.at0 ((hs.read (.there .here)).1.2 _ hrm) eInt_len hnx rfl)) ?_
      refine Dr.tail 11 (by kernel_rfl) ?_
      refine Ops.sat ?_ (fun _ hs => hR16 .here hs)
      refine Ops.q (q_asg rfl) ?_
      refine Ops.to rfl ?_
      refine Cd.region ?_
      refine Ops.q (q_mv rfl) ?_
      refine Ops.q (q_mv rfl) ?_
      refine Ops.lit [.int .i64 (((wN (mdNx q n xs q) (s0 : Int) (wdL n us) (k + 1)) : Nat) : Int)] el_26 zsb_3 rfl rfl ⟨by decide, by decide⟩ rfl ?_
      intro b17
      refine Ops.app (news := [.int .i64 (((wN (mdNx q n xs q) (s0 : Int) (wdL n us) (k + 1)) : Nat) : Int)]) el_26 zsb_3 (by decide) rfl rfl (fun _ hs => hs.ownRo .here) (fun _ hs => (hs.pull .here).drop) (fun _ _ => (.there (.there (.there .here)))) rfl (one rfl) (by omega) (by omega) ?_
      intro a18 c19
      refine Ops.q (q_asg rfl) ?_
      refine Ops.to rfl ?_
      refine Cd.region ?_
      refine Ops.q (q_ar rfl rfl (a_inc (by omega))) ?_
      refine Ops.q (q_mv rfl) ?_
      refine Ops.rnd ((k + 1, a10, c11, a18, c19)) rfl (by dsimp only; exact (by omega)) (by dsimp only; omega) ⟨rfl, rfl, rfl, rfl, rfl, rfl, rfl, rfl, rfl, trivial⟩ (fun _ hs => by have h1 := ((((hs.pull (.there .here)).pull (.there .here)).pull (.there (.there (.there .here)))).pull (.there (.there (.there .here)))); (try dsimp only); rw [List.take_add_one, hWk, fm_app, wantL_succ, fm_app]; exact h1) 
    · refine Ops.q (q_cmp rfl rfl (c_nlt (by omega))) ?_
      have hk9 : k = (wdL n us).length := by omega
      rw [hk9, List.take_length]
      have hw40 : (wdL n us).length ≤ 40 := by omega
      refine Ops.to rfl ?_
      refine Cd.seq ?_
      refine Cd.cond_f rfl ?_
      refine Cd.exitTo rfl ?_
      refine Cd.seq ?_
      refine Cd.region ?_
      refine Ops.q (q_ldBN [.slice (some ⟨nb, no, none⟩) q nc, .int .i64 (s0 : Int), .slice (some ⟨bb, bo, none⟩) q ac] isA_36 sz_36 rfl (.there (.there .here)) rfl) ?_
      refine Ops.cl (α := (Option Addr × Nat) × (Option Addr × Nat)) (v := fun x => .tuple [.agg [.slice x.1.1 (autN (mdNx q n xs q) (s0 : Int) (accL ab q) n).ns.length x.1.2, .int .i64 (autN (mdNx q n xs q) (s0 : Int) (accL ab q) n).inp, .slice x.2.1 (autN (mdNx q n xs q) (s0 : Int) (accL ab q) n).ss.length x.2.2].toArray, .int .i64 0].toArray) (B := fun x => [row x.1.1 x.1.2 116 8 (autN (mdNx q n xs q) (s0 : Int) (accL ab q) n).ns.length ((autN (mdNx q n xs q) (s0 : Int) (accL ab q) n).ns.flatMap ePrm), row x.2.1 x.2.2 126 4 (autN (mdNx q n xs q) (s0 : Int) (accL ab q) n).ss.length ((autN (mdNx q n xs q) (s0 : Int) (accL ab q) n).ss.flatMap eSyn)]) en_14 rfl (fun w hs => machine_q hz hlq hAl hOK.machine_ok (hs.read (.there (.there (.there .here))))) ?_
      rintro ⟨⟨p, pc⟩, ⟨p2, pc2⟩⟩
      refine Ops.q (q_mv rfl) ?_
      refine Ops.q (q_ext rfl rfl) ?_
      refine Ops.q (q_ext rfl rfl) ?_
      refine Ops.alc [.slice none 0 0, .int .i64 0, .slice none 0 0] zc_32 ?_
      intro b20
      refine Ops.stB [.slice p ((autN (mdNx q n xs q) (s0 : Int) (accL ab q) n).ns.length) pc, .int .i64 ((autN (mdNx q n xs q) (s0 : Int) (accL ab q) n).inp), .slice p2 ((autN (mdNx q n xs q) (s0 : Int) (accL ab q) n).ss.length) pc2] [.slice p ((autN (mdNx q n xs q) (s0 : Int) (accL ab q) n).ns.length) pc, .int .i64 ((autN (mdNx q n xs q) (s0 : Int) (accL ab q) n).inp), .slice p2 ((autN (mdNx q n xs q) (s0 : Int) (accL ab q) n).ss.length) pc2] sz_32 rfl rfl rfl (one rfl) .here rfl rfl ?_
      refine Ops.q (q_asg rfl) ?_
      refine Ops.to rfl ?_
      refine Cd.seq ?_
      refine Cd.region ?_
      refine Ops.q (q_ldBN [.slice (some ⟨nb, no, none⟩) q nc, .int .i64 (s0 : Int), .slice (some ⟨bb, bo, none⟩) q ac] isA_36 sz_36 rfl (.there (.there (.there (.there (.there .here))))) rfl) ?_
      refine Ops.q (q_mv rfl) ?_
      refine Ops.cl (α := Option Addr × Nat) (v := fun x => .tuple [.slice x.1 (evA (wdL n us) n).length x.2, .int .i64 0].toArray) (B := fun x => [row x.1 x.2 88 2 (evA (wdL n us) n).length ((evA (wdL n us) n).flatMap eEvt)]) en_18 rfl (fun w hs => word_q hz hlq (by have h9 := hOK.word_ok hw40; rwa [hAl] at h9) (hs.read (.there (.there (.there (.there (.there (.there .here))))))).1 (hs.ownRo (.there (.there (.there .here))))) ?_
      rintro ⟨wv, wvc⟩
      refine Ops.q (q_mv rfl) ?_
      refine Ops.q (q_ext rfl rfl) ?_
      refine Ops.q (q_ext rfl rfl) ?_
      refine Ops.q (q_asg rfl) ?_
      refine Ops.q (q_asg rfl) ?_
      refine Ops.to rfl ?_
      refine Cd.seq ?_
      refine Cd.seq ?_
      refine Cd.region ?_
      refine Ops.q (q_mv rfl) ?_
      refine Ops.q (q_cmp rfl rfl (c_nne (by decide))) ?_
      refine Ops.q (q_mv rfl) ?_
      refine Ops.q (q_mv rfl) ?_
      refine Ops.q (q_cmp rfl rfl (c_nne (by decide))) ?_
      refine Ops.q (q_pickF rfl rfl) ?_
      refine Ops.q (q_mv rfl) ?_
      refine Ops.q (q_ldBN [.slice p ((autN (mdNx q n xs q) (s0 : Int) (accL ab q) n).ns.length) pc, .int .i64 ((autN (mdNx q n xs q) (s0 : Int) (accL ab q) n).inp), .slice p2 ((autN (mdNx q n xs q) (s0 : Int) (accL ab q) n).ss.length) pc2] isA_32 sz_32 rfl (.there .here) rfl) ?_
      refine Ops.cp en_35 rfl (fun w hs => chk0R (check_c _ _ _ _ (autN (mdNx q n xs q) (s0 : Int) (accL ab q) n).ns (autN (mdNx q n xs q) (s0 : Int) (accL ab q) n).inp (autN (mdNx q n xs q) (s0 : Int) (accL ab q) n).ss w (hs.ownRo (.there (.there .here))) (hs.ownRo (.there (.there (.there .here))))) hOK.net) ?_
      refine Ops.q (q_cmp rfl rfl (c_nne (by decide))) ?_
      refine Ops.q (q_pickF rfl rfl) ?_
      refine Ops.to rfl ?_
      refine Cd.cond_f rfl ?_
      refine Cd.skipTo rfl ?_
      refine Cd.seq ?_
      refine Cd.region ?_
      refine Ops.q (q_ldBN [.slice p ((autN (mdNx q n xs q) (s0 : Int) (accL ab q) n).ns.length) pc, .int .i64 ((autN (mdNx q n xs q) (s0 : Int) (accL ab q) n).inp), .slice p2 ((autN (mdNx q n xs q) (s0 : Int) (accL ab q) n).ss.length) pc2] isA_32 sz_32 rfl (.there .here) rfl) ?_
      refine Ops.q (q_mv rfl) ?_
      refine Ops.q (q_mv rfl) ?_
      refine Ops.q (q_len esz_26 rfl) ?_
      refine Ops.q (q_ar rfl rfl (a_mul (by omega))) ?_
      refine Ops.q (q_ar rfl rfl (a_add (by omega))) ?_
      refine Ops.cl (α := Option Addr × Nat) (v := fun x => .tuple [.slice x.1 (outA (mdNx q n xs q) (s0 : Int) (accL ab q) (wdL n us) n).length x.2, .int .i64 0].toArray) (B := fun x => [row x.1 x.2 88 2 (outA (mdNx q n xs q) (s0 : Int) (accL ab q) (wdL n us) n).length ((outA (mdNx q n xs q) (s0 : Int) (accL ab q) (wdL n us) n).flatMap eEvt)]) en_36 rfl (fun w hs => run_some _ _ _ _ (autN (mdNx q n xs q) (s0 : Int) (accL ab q) n).ns (autN (mdNx q n xs q) (s0 : Int) (accL ab q) n).inp (autN (mdNx q n xs q) (s0 : Int) (accL ab q) n).ss _ _ (evA (wdL n us) n) (3 * ((wdL n us).length : Int) + 20) w (hs.ownRo (.there (.there .here))) (hs.ownRo (.there (.there (.there .here)))) (hs.ownRo .here) (rowle_any hs .here) (outA (mdNx q n xs q) (s0 : Int) (accL ab q) (wdL n us) n) (hOK.prep (by omega) (by omega) (by omega)) (by rw [show (3 * ((wdL n us).length : Int) + 20).toNat = 3 * (wdL n us).length + 20 from by omega]; exact hOK.run (by omega) (by omega) (by omega))) ?_
      rintro ⟨sa, sac⟩
      refine Ops.q (q_mv rfl) ?_
      refine Ops.q (q_ext rfl rfl) ?_
      refine Ops.q (q_ext rfl rfl) ?_
      refine Ops.q (q_asg rfl) ?_
      refine Ops.q (q_asg rfl) ?_
      refine Ops.to rfl ?_
      refine Cd.seq ?_
      refine Cd.region ?_
      refine Ops.q (q_ldBN [.slice (some ⟨nb, no, none⟩) q nc, .int .i64 (s0 : Int), .slice (some ⟨bb, bo, none⟩) q ac] isA_36 sz_36 rfl (.there (.there (.there (.there (.there (.there (.there .here))))))) rfl) ?_
      refine Ops.q (q_mv rfl) ?_
      refine Ops.cl (α := Option Addr × Nat) (v := fun x => .tuple [.slice x.1 (wantL (mdNx q n xs q) (s0 : Int) (wdL n us) ((wdL n us).length + 1)).length x.2, .int .i64 0].toArray) (B := fun x => [row x.1 x.2 3 1 (wantL (mdNx q n xs q) (s0 : Int) (wdL n us) ((wdL n us).length + 1)).length ((wantL (mdNx q n xs q) (s0 : Int) (wdL n us) ((wdL n us).length + 1)).flatMap eInt)]) en_21 rfl (fun w hs => states_q hz hlq (by have h9 := hOK.states_ok (outA (mdNx q n xs q) (s0 : Int) (accL ab q) (wdL n us) n); rw [hOK.got, hAl] at h9; exact h9) (hs.read (.there (.there (.there (.there (.there (.there (.there (.there .here))))))))).1 (hs.ownRo .here) (by omega)) ?_
      rintro ⟨ha, hac⟩
      refine Ops.q (q_mv rfl) ?_
      refine Ops.q (q_ext rfl rfl) ?_
      refine Ops.q (q_ext rfl rfl) ?_
      refine Ops.q (q_asg rfl) ?_
      refine Ops.q (q_asg rfl) ?_
      refine Ops.to rfl ?_
      refine Cd.seq ?_
      refine Cd.seq ?_
      refine Cd.region ?_
      refine Ops.q (q_mv rfl) ?_
      refine Ops.q (q_cmp rfl rfl (c_nne (by decide))) ?_
      refine Ops.q (q_mv rfl) ?_
      refine Ops.q (q_mv rfl) ?_
      refine Ops.q (q_cmp rfl rfl (c_nne (by decide))) ?_
      refine Ops.q (q_pickF rfl rfl) ?_
      refine Ops.q (q_mv rfl) ?_
      refine Ops.q (q_mv rfl) ?_
      refine Ops.q (q_mv rfl) ?_
      refine Ops.cp en_23 rfl (fun w hs => dT (numbers_n _ _ _ _ (wantL (mdNx q n xs q) (s0 : Int) (wdL n us) ((wdL n us).length + 1)) (wantL (mdNx q n xs q) (s0 : Int) (wdL n us) ((wdL n us).length + 1)) ((wdL n us).length + 1) (wantL_len ..) w (hs.ownRo .here) (hs.ownRo (.there (.there (.there (.there (.there (.there (.there .here)))))))) (rowmax hs .here)) rfl) ?_
      refine Ops.q (q_not rfl) ?_
      refine Ops.q (q_pickF rfl rfl) ?_
      refine Ops.to rfl ?_
      refine Cd.cond_f rfl ?_
      refine Cd.skipTo rfl ?_
      refine Cd.seq ?_
      refine Cd.region ?_
      refine Ops.q (q_asg rfl) ?_
      refine Ops.to rfl ?_
      refine Cd.seq ?_
      refine Cd.seq ?_
      refine Cd.region ?_
      refine Ops.q (q_mv rfl) ?_
      refine Ops.q (q_len esz_27 rfl) ?_
      refine Ops.q (q_mv rfl) ?_
      refine Ops.to rfl ?_
      refine Cd.block ?_
      refine Cd.lp (σ := Nat × Option Addr × Nat) (fun s => s.1 ≤ (outA (mdNx q n xs q) (s0 : Int) (accL ab q) (wdL n us) n).length) (fun s => [(13, .pointer (some ⟨b2, 0, none⟩)), (14, .int .i64 (q : Int)), (15, .int .i64 (n : Int)), (18, .slice va ((wdL n us).length + 1) vc), (134, .slice sa ((outA (mdNx q n xs q) (s0 : Int) (accL ab q) (wdL n us) n).length) sac), (135, .int .i64 ((outA (mdNx q n xs q) (s0 : Int) (accL ab q) (wdL n us) n).length : Int)), (27, .slice s.2.1 ((accT (q + q * n) ((outA (mdNx q n xs q) (s0 : Int) (accL ab q) (wdL n us) n).take s.1)).length) s.2.2), (136, .int .i64 (s.1 : Int))]) (fun s => [row s.2.1 s.2.2 3 1 ((accT (q + q * n) ((outA (mdNx q n xs q) (s0 : Int) (accL ab q) (wdL n us) n).take s.1)).length) ((accT (q + q * n) ((outA (mdNx q n xs q) (s0 : Int) (accL ab q) (wdL n us) n).take s.1)).flatMap eInt), row sa sac 88 2 ((outA (mdNx q n xs q) (s0 : Int) (accL ab q) (wdL n us) n).length) ((outA (mdNx q n xs q) (s0 : Int) (accL ab q) (wdL n us) n).flatMap eEvt), row va vc 3 1 ((wdL n us).length + 1) ((wantL (mdNx q n xs q) (s0 : Int) (wdL n us) ((wdL n us).length + 1)).flatMap eInt), blk b2 36 [.slice (some ⟨nb, no, none⟩) q nc, .int .i64 (s0 : Int), .slice (some ⟨bb, bo, none⟩) q ac], rd (fun w => RoLL w (some ⟨nb, no, none⟩) lz ∧ RoL w (some ⟨bb, bo, none⟩) eBool (accL ab q))]) (fun s => (outA (mdNx q n xs q) (s0 : Int) (accL ab q) (wdL n us) n).length - s.1) (0, none, 0) (Nat.zero_le _) ⟨rfl, rfl, rfl, rfl, rfl, rfl, rfl, rfl, trivial⟩ (fun _ hs => by have h1 := (((((((((((hs.pull (.there (.there (.there (.there (.there (.there (.there (.there (.there .here)))))))))).pull (.there (.there (.there (.there (.there (.there (.there (.there (.there .here)))))))))).pull (.there (.there (.there (.there (.there (.there (.there (.there (.there .here)))))))))).pull (.there (.there (.there (.there .here))))).pull (.there (.there (.there (.there .here))))).drop.pull (.there (.there (.there (.there .here))))).drop.pull (.there (.there (.there (.there .here))))).drop.pull (.there (.there (.there (.there .here))))).drop.pull (.there (.there (.there (.there .here))))).drop.pull (.there (.there (.there (.there .here))))).drop).nilRow 3 1; exact h1) ?_
      rintro ⟨k, ga, gc⟩ hI
      dsimp only at hI
      change Cd _ _ _ _ _ _ _ [(13, .pointer (some ⟨b2, 0, none⟩)), (14, .int .i64 (q : Int)), (15, .int .i64 (n : Int)), (18, .slice va ((wdL n us).length + 1) vc), (134, .slice sa ((outA (mdNx q n xs q) (s0 : Int) (accL ab q) (wdL n us) n).length) sac), (135, .int .i64 ((outA (mdNx q n xs q) (s0 : Int) (accL ab q) (wdL n us) n).length : Int)), (27, .slice ga ((accT (q + q * n) ((outA (mdNx q n xs q) (s0 : Int) (accL ab q) (wdL n us) n).take k)).length) gc), (136, .int .i64 (k : Int))] ([row ga gc 3 1 ((accT (q + q * n) ((outA (mdNx q n xs q) (s0 : Int) (accL ab q) (wdL n us) n).take k)).length) ((accT (q + q * n) ((outA (mdNx q n xs q) (s0 : Int) (accL ab q) (wdL n us) n).take k)).flatMap eInt), row sa sac 88 2 ((outA (mdNx q n xs q) (s0 : Int) (accL ab q) (wdL n us) n).length) ((outA (mdNx q n xs q) (s0 : Int) (accL ab q) (wdL n us) n).flatMap eEvt), row va vc 3 1 ((wdL n us).length + 1) ((wantL (mdNx q n xs q) (s0 : Int) (wdL n us) ((wdL n us).length + 1)).flatMap eInt), blk b2 36 [.slice (some ⟨nb, no, none⟩) q nc, .int .i64 (s0 : Int), .slice (some ⟨bb, bo, none⟩) q ac], rd (fun w => RoLL w (some ⟨nb, no, none⟩) lz ∧ RoL w (some ⟨bb, bo, none⟩) eBool (accL ab q))])
      refine Cd.seq ?_
      refine Cd.region ?_
      by_cases hk : (k : Int) < ((outA (mdNx q n xs q) (s0 : Int) (accL ab q) (wdL n us) n).length : Int)
      · refine Ops.q (q_cmp rfl rfl (c_lt hk)) ?_
        obtain ⟨⟨xt, xi⟩, hx⟩ : ∃ x, (outA (mdNx q n xs q) (s0 : Int) (accL ab q) (wdL n us) n)[k]? = some x := ⟨_, List.getElem?_eq_getElem (by omega)⟩
        obtain ⟨tn, htn, htb, hbad⟩ := hOK.out_ok (List.mem_iff_getElem?.2 ⟨k, hx⟩)
        dsimp only at htn hbad
        subst htn
        rw [hNl] at hbad
        have hal : (accT (q + q * n) ((outA (mdNx q n xs q) (s0 : Int) (accL ab q) (wdL n us) n).take k)).length ≤ 1000 := by have h1 := accT_len (q + q * n) ((outA (mdNx q n xs q) (s0 : Int) (accL ab q) (wdL n us) n).take k); rw [List.length_take] at h1; omega
        refine Ops.rowpos (.there .here) (by omega) ?_
        rintro eb rfl
        refine Ops.rowpos (.there (.there .here)) (by omega) ?_
        rintro vb rfl
        refine Ops.to rfl ?_
        refine Cd.seq ?_
        refine Cd.cond_t rfl ?_
        refine Cd.skipTo rfl ?_
        refine Cd.seq ?_
        refine Cd.block ?_
        refine Cd.seq ?_
        refine Cd.region ?_
        refine Ops.q (q_ix (k := k) esz_27 rfl rfl (by omega)) ?_
        refine Ops.q (q_ldON [.int .i64 (tn : Int), .int .i64 xi] isA_88 sz_88 rfl (.there .here) (fm_atN eEvt_len hx)) ?_
        refine Ops.alc [.int .i64 0, .int .i64 0] zc_88 ?_
        intro b21
        refine Ops.stB [.int .i64 (tn : Int), .int .i64 xi] [.int .i64 (tn : Int), .int .i64 xi] sz_88 rfl rfl rfl (one rfl) .here rfl rfl ?_
        refine Ops.to rfl ?_
        refine Cd.block ?_
        refine Cd.seq ?_
        refine Cd.draw rfl (by kernel_rfl) (.cons .here (.cons (.there (.there .here)) .nil)) ?_
        intro F22 St23 hP24 hF25 hR26
        refine Dr.q (i := 0) hP24 rfl (by kernel_rfl) (q_fa fo_88_1 rfl) ?_
        refine Dr.q (i := 1) hP24 rfl (by kernel_rfl) (q_ldB isA_3 rfl .here rfl) ?_
        refine Dr.q (i := 2) hP24 rfl (by kernel_rfl) (q_mv rfl) ?_
        by_cases hlt : xi < (q : Int)
        · refine Dr.q (i := 3) hP24 rfl (by kernel_rfl) (q_cmp rfl rfl (c_lt hlt)) ?_
          refine Dr.q (i := 4) hP24 rfl (by kernel_rfl) (q_mv rfl) ?_
          refine Dr.q (i := 5) hP24 rfl (by kernel_rfl) (q_fa fo_88_0 rfl) ?_
          refine Dr.q (i := 6) hP24 rfl (by kernel_rfl) (q_ldB isA_3 rfl .here rfl) ?_
          refine Dr.q (i := 7) hP24 rfl (by kernel_rfl) (q_ar (v := ((tn % 3 : Nat) : Int)) rfl rfl (a_remN (by decide))) ?_
          refine Dr.q (i := 8) hP24 rfl (by kernel_rfl) (q_cmp rfl rfl (c_nne (by have := hbad hlt; omega))) ?_
          refine Dr.q (i := 9) hP24 rfl (by kernel_rfl) (q_mv rfl) ?_
          refine Dr.q (i := 10) hP24 rfl (by kernel_rfl) (q_fa fo_88_0 rfl) ?_
          refine Dr.q (i := 11) hP24 rfl (by kernel_rfl) (q_ldB isA_3 rfl .here rfl) ?_
          refine Dr.q (i := 12) hP24 rfl (by kernel_rfl) (q_ar (v := ((tn / 3 : Nat) : Int)) rfl rfl (a_quoN (by decide) (by omega))) ?_
          refine Dr.q (i := 13) hP24 rfl (by kernel_rfl) (q_mv rfl) ?_
          refine Dr.q (i := 14) hP24 rfl (by kernel_rfl) (q_len esz_26 rfl) ?_
          refine Dr.q (i := 15) hP24 rfl (by kernel_rfl) (q_cmp rfl rfl (c_nge (by have := hbad hlt; omega))) ?_
          refine Dr.q (i := 16) hP24 rfl (by kernel_rfl) (q_pickF rfl rfl) ?_
          refine Dr.q (i := 17) hP24 rfl (by kernel_rfl) (q_mv rfl) ?_
          refine Dr.q (i := 18) hP24 rfl (by kernel_rfl) (q_mv rfl) ?_
          refine Dr.q (i := 19) hP24 rfl (by kernel_rfl) (q_fa fo_88_0 rfl) ?_
          refine Dr.q (i := 20) hP24 rfl (by kernel_rfl) (q_ldB isA_3 rfl .here rfl) ?_
          refine Dr.q (i := 21) hP24 rfl (by kernel_rfl) (q_ar (v := ((tn / 3 : Nat) : Int)) rfl rfl (a_quoN (by decide) (by omega))) ?_
          refine Dr.q (i := 22) hP24 rfl (by kernel_rfl) (q_ix (k := (tn / 3)) esz_26 rfl rfl (by have := hbad hlt; omega)) ?_
          refine Dr.q (i := 23) hP24 rfl (by kernel_rfl) (q_ldO isA_3 rfl (.there .here) (fm_at0 eInt_len (wantL_get (by have := hbad hlt; omega)) rfl)) ?_
          refine Dr.q (i := 24) hP24 rfl (by kernel_rfl) (q_fa fo_88_1 rfl) ?_
          refine Dr.q (i := 25) hP24 rfl (by kernel_rfl) (q_ldB isA_3 rfl .here rfl) ?_
          refine Dr.q (i := 26) hP24 rfl (by kernel_rfl) (q_cmp rfl rfl (c_nne (by have := (hbad hlt).2.2; omega))) ?_
          refine Dr.q (i := 27) hP24 rfl (by kernel_rfl) (q_pickF rfl rfl) ?_
          refine Dr.q (i := 28) hP24 rfl (by kernel_rfl) (q_pickT rfl rfl) ?_
          refine Dr.q (i := 29) hP24 rfl (by kernel_rfl) (q_asg rfl) ?_
          refine Dr.tail 30 (by kernel_rfl) ?_
          refine Ops.sat ?_ (fun _ hs => hR26 .here hs)
          refine Ops.to rfl ?_
          refine Cd.cond_f rfl ?_
          refine Cd.seq ?_
          refine Cd.region ?_
          refine Ops.q (q_fa fo_88_1 rfl) ?_
          refine Ops.q (q_ldB isA_3 rfl .here rfl) ?_
          refine Ops.q (q_mv rfl) ?_
          refine Ops.q (q_mv rfl) ?_
          refine Ops.q (q_mv rfl) ?_
          refine Ops.q (q_ar (v := ((q * n : Nat) : Int)) rfl rfl (a_mulN (by omega))) ?_
          refine Ops.q (q_ar (v := ((q + q * n : Nat) : Int)) rfl rfl (a_addN (by omega))) ?_
          by_cases hacc : xi = ((q + q * n : Nat) : Int)
          · refine Ops.q (q_cmp rfl rfl (c_eq hacc)) ?_
            refine Ops.q (q_asg rfl) ?_
            refine Ops.to rfl ?_
            refine Cd.cond_t rfl ?_
            refine Cd.region ?_
            refine Ops.q (q_mv rfl) ?_
            refine Ops.q (q_fa fo_88_0 rfl) ?_
            refine Ops.q (q_ldB isA_3 rfl .here rfl) ?_
            refine Ops.lit [.int .i64 (tn : Int)] el_26 zsb_3 rfl rfl ⟨by decide, by decide⟩ rfl ?_
            intro b27
            refine Ops.app (news := [.int .i64 (tn : Int)]) el_26 zsb_3 (by decide) rfl rfl (fun _ hs => hs.ownRo .here) (fun _ hs => (hs.pull .here).drop) (fun _ _ => (.there (.there .here))) rfl (one rfl) (by omega) (by omega) ?_
            intro a28 c29
            refine Ops.q (q_asg rfl) ?_
            refine Ops.to rfl ?_
            refine Cd.region ?_
            refine Ops.q (q_ar rfl rfl (a_inc (by omega))) ?_
            refine Ops.q (q_mv rfl) ?_
            refine Ops.rnd ((k + 1, a28, c29)) rfl (by dsimp only; exact (by omega)) (by dsimp only; omega) ⟨rfl, rfl, rfl, rfl, rfl, rfl, (by (try dsimp only); rw [accT_yes hx hacc, List.length_append]; rfl), rfl, trivial⟩ (fun _ hs => by have h1 := ((((((hs.pull (.there (.there (.there (.there (.there .here)))))).pull (.there (.there (.there (.there (.there .here)))))).pull (.there (.there (.there .here)))).pull (.there (.there (.there (.there (.there .here)))))).pull (.there (.there (.there (.there (.there .here)))))).pull (.there (.there (.there (.there (.there .here)))))).drop; (try dsimp only); rw [accT_yes hx hacc, List.length_append, fm_app]; exact h1) 
          · refine Ops.q (q_cmp rfl rfl (c_neq hacc)) ?_
            refine Ops.q (q_asg rfl) ?_
            refine Ops.to rfl ?_
            refine Cd.cond_f rfl ?_
            refine Cd.skipTo rfl ?_
            refine Cd.region ?_
            refine Ops.q (q_ar rfl rfl (a_inc (by omega))) ?_
            refine Ops.q (q_mv rfl) ?_
            refine Ops.rnd ((k + 1, ga, gc)) rfl (by dsimp only; exact (by omega)) (by dsimp only; omega) ⟨rfl, rfl, rfl, rfl, rfl, rfl, (by (try dsimp only); rw [accT_no hx hacc]; rfl), rfl, trivial⟩ (fun _ hs => by have h1 := ((((((hs.pull (.there (.there (.there (.there (.there .here)))))).pull (.there (.there (.there (.there (.there .here)))))).pull (.there (.there (.there .here)))).pull (.there (.there (.there (.there (.there .here)))))).pull (.there (.there (.there (.there (.there .here)))))).pull (.there (.there (.there (.there (.there .here)))))).drop; (try dsimp only); rw [accT_no hx hacc]; exact h1) 
        · refine Dr.q (i := 3) hP24 rfl (by kernel_rfl) (q_cmp rfl rfl (c_nlt (by omega))) ?_
          refine Dr.q (i := 4) hP24 rfl (by kernel_rfl) (q_mv rfl) ?_
          refine Dr.sk (i := 5) rfl (by kernel_rfl) ?_
          refine Dr.sk (i := 6) rfl (by kernel_rfl) ?_
          refine Dr.sk (i := 7) rfl (by kernel_rfl) ?_
          refine Dr.sk (i := 8) rfl (by kernel_rfl) ?_
          refine Dr.sk (i := 9) rfl (by kernel_rfl) ?_
          refine Dr.sk (i := 10) rfl (by kernel_rfl) ?_
          refine Dr.sk (i := 11) rfl (by kernel_rfl) ?_
          refine Dr.sk (i := 12) rfl (by kernel_rfl) ?_
          refine Dr.sk (i := 13) rfl (by kernel_rfl) ?_
          refine Dr.sk (i := 14) rfl (by kernel_rfl) ?_
          refine Dr.sk (i := 15) rfl (by kernel_rfl) ?_
          refine Dr.sk (i := 16) rfl (by kernel_rfl) ?_
          refine Dr.sk (i := 17) rfl (by kernel_rfl) ?_
          refine Dr.sk (i := 18) rfl (by kernel_rfl) ?_
          refine Dr.sk (i := 19) rfl (by kernel_rfl) ?_
          refine Dr.sk (i := 20) rfl (by kernel_rfl) ?_
          refine Dr.sk (i := 21) rfl (by kernel_rfl) ?_
          refine Dr.sk (i := 22) rfl (by kernel_rfl) ?_
          refine Dr.sk (i := 23) rfl (by kernel_rfl) ?_
          refine Dr.sk (i := 24) rfl (by kernel_rfl) ?_
          refine Dr.sk (i := 25) rfl (by kernel_rfl) ?_
          refine Dr.sk (i := 26) rfl (by kernel_rfl) ?_
          refine Dr.sk (i := 27) rfl (by kernel_rfl) ?_
          refine Dr.q (i := 28) hP24 rfl (by kernel_rfl) (q_pickF rfl rfl) ?_
          refine Dr.q (i := 29) hP24 rfl (by kernel_rfl) (q_asg rfl) ?_
          refine Dr.tail 30 (by kernel_rfl) ?_
          refine Ops.sat ?_ (fun _ hs => hR26 .here hs)
          refine Ops.to rfl ?_
          refine Cd.cond_f rfl ?_
          refine Cd.seq ?_
          refine Cd.region ?_
          refine Ops.q (q_fa fo_88_1 rfl) ?_
          refine Ops.q (q_ldB isA_3 rfl .here rfl) ?_
          refine Ops.q (q_mv rfl) ?_
          refine Ops.q (q_mv rfl) ?_
          refine Ops.q (q_mv rfl) ?_
          refine Ops.q (q_ar (v := ((q * n : Nat) : Int)) rfl rfl (a_mulN (by omega))) ?_
          refine Ops.q (q_ar (v := ((q + q * n : Nat) : Int)) rfl rfl (a_addN (by omega))) ?_
          by_cases hacc : xi = ((q + q * n : Nat) : Int)
          · refine Ops.q (q_cmp rfl rfl (c_eq hacc)) ?_
            refine Ops.q (q_asg rfl) ?_
            refine Ops.to rfl ?_
            refine Cd.cond_t rfl ?_
            refine Cd.region ?_
            refine Ops.q (q_mv rfl) ?_
            refine Ops.q (q_fa fo_88_0 rfl) ?_
            refine Ops.q (q_ldB isA_3 rfl .here rfl) ?_
            refine Ops.lit [.int .i64 (tn : Int)] el_26 zsb_3 rfl rfl ⟨by decide, by decide⟩ rfl ?_
            intro b30
            refine Ops.app (news := [.int .i64 (tn : Int)]) el_26 zsb_3 (by decide) rfl rfl (fun _ hs => hs.ownRo .here) (fun _ hs => (hs.pull .here).drop) (fun _ _ => (.there (.there .here))) rfl (one rfl) (by omega) (by omega) ?_
            intro a31 c32
            refine Ops.q (q_asg rfl) ?_
            refine Ops.to rfl ?_
            refine Cd.region ?_
            refine Ops.q (q_ar rfl rfl (a_inc (by omega))) ?_
            refine Ops.q (q_mv rfl) ?_
            refine Ops.rnd ((k + 1, a31, c32)) rfl (by dsimp only; exact (by omega)) (by dsimp only; omega) ⟨rfl, rfl, rfl, rfl, rfl, rfl, (by (try dsimp only); rw [accT_yes hx hacc, List.length_append]; rfl), rfl, trivial⟩ (fun _ hs => by have h1 := ((((((hs.pull (.there (.there (.there (.there (.there .here)))))).pull (.there (.there (.there (.there (.there .here)))))).pull (.there (.there (.there .here)))).pull (.there (.there (.there (.there (.there .here)))))).pull (.there (.there (.there (.there (.there .here)))))).pull (.there (.there (.there (.there (.there .here)))))).drop; (try dsimp only); rw [accT_yes hx hacc, List.length_append, fm_app]; exact h1) 
          · refine Ops.q (q_cmp rfl rfl (c_neq hacc)) ?_
            refine Ops.q (q_asg rfl) ?_
            refine Ops.to rfl ?_
            refine Cd.cond_f rfl ?_
            refine Cd.skipTo rfl ?_
            refine Cd.region ?_
            refine Ops.q (q_ar rfl rfl (a_inc (by omega))) ?_
            refine Ops.q (q_mv rfl) ?_
            refine Ops.rnd ((k + 1, ga, gc)) rfl (by dsimp only; exact (by omega)) (by dsimp only; omega) ⟨rfl, rfl, rfl, rfl, rfl, rfl, (by (try dsimp only); rw [accT_no hx hacc]; rfl), rfl, trivial⟩ (fun _ hs => by have h1 := ((((((hs.pull (.there (.there (.there (.there (.there .here)))))).pull (.there (.there (.there (.there (.there .here)))))).pull (.there (.there (.there .here)))).pull (.there (.there (.there (.there (.there .here)))))).pull (.there (.there (.there (.there (.there .here)))))).pull (.there (.there (.there (.there (.there .here)))))).drop; (try dsimp only); rw [accT_no hx hacc]; exact h1) 
      · refine Ops.q (q_cmp rfl rfl (c_nlt (by omega))) ?_
        have hk8 : k = (outA (mdNx q n xs q) (s0 : Int) (accL ab q) (wdL n us) n).length := by omega
        have htk : accT (q + q * n) (outA (mdNx q n xs q) (s0 : Int) (accL ab q) (wdL n us) n) = (tksA (mdNx q n xs q) (s0 : Int) (accL ab q) (wdL n us) ((wdL n us).length + 1)) := by have h9 := hOK.tks; rwa [hNl] at h9
        rw [hk8, List.take_length, htk]
        refine Ops.to rfl ?_
        refine Cd.seq ?_
        refine Cd.cond_f rfl ?_
        refine Cd.exitTo rfl ?_
        refine Cd.seq ?_
        refine Cd.region ?_
        refine Ops.q (q_asg rfl) ?_
        refine Ops.to rfl ?_
        refine Cd.seq ?_
        refine Cd.seq ?_
        refine Cd.region ?_
        refine Ops.q (q_mv rfl) ?_
        refine Ops.q (q_len esz_26 rfl) ?_
        refine Ops.q (q_mv rfl) ?_
        refine Ops.to rfl ?_
        refine Cd.block ?_
        refine Cd.lp (σ := Nat) (fun i => i ≤ (wdL n us).length + 1) (fun i => [(13, .pointer (some ⟨b2, 0, none⟩)), (27, .slice ga ((tksA (mdNx q n xs q) (s0 : Int) (accL ab q) (wdL n us) ((wdL n us).length + 1)).length) gc), (185, .slice va ((wdL n us).length + 1) vc), (186, .int .i64 ((wdL n us).length + 1 : Int)), (30, .int .i64 (((cntA (mdNx q n xs q) (s0 : Int) (accL ab q) (wdL n us) i) : Nat) : Int)), (187, .int .i64 (i : Int))]) (fun i => [row va vc 3 1 ((wdL n us).length + 1) ((wantL (mdNx q n xs q) (s0 : Int) (wdL n us) ((wdL n us).length + 1)).flatMap eInt), row ga gc 3 1 ((tksA (mdNx q n xs q) (s0 : Int) (accL ab q) (wdL n us) ((wdL n us).length + 1)).length) ((tksA (mdNx q n xs q) (s0 : Int) (accL ab q) (wdL n us) ((wdL n us).length + 1)).flatMap eInt), blk b2 36 [.slice (some ⟨nb, no, none⟩) q nc, .int .i64 (s0 : Int), .slice (some ⟨bb, bo, none⟩) q ac], rd (fun w => RoLL w (some ⟨nb, no, none⟩) lz ∧ RoL w (some ⟨bb, bo, none⟩) eBool (accL ab q))]) (fun i => (wdL n us).length + 1 - i) 0 (Nat.zero_le _) ⟨rfl, rfl, rfl, rfl, rfl, rfl, trivial⟩ (fun _ hs => (((((hs.pull (.there (.there (.there (.there .here))))).pull (.there (.there (.there (.there .here))))).pull (.there (.there .here))).pull (.there (.there (.there (.there .here))))).pull (.there (.there (.there (.there .here))))).drop) ?_
        intro i hI
        refine Cd.seq ?_
        refine Cd.region ?_
        by_cases hi : (i : Int) < ((wdL n us).length + 1 : Int)
        · refine Ops.q (q_cmp rfl rfl (c_lt hi)) ?_
          have hwi : (wN (mdNx q n xs q) (s0 : Int) (wdL n us) i) < q := by have := hOK.wN_lt i; rwa [hNl] at this
          obtain ⟨bv, hbv⟩ : ∃ x, (accL ab q)[(wN (mdNx q n xs q) (s0 : Int) (wdL n us) i)]? = some x := ⟨_, List.getElem?_eq_getElem (by omega)⟩
          have hcl0 := cntA_le (nx := (mdNx q n xs q)) (st := (s0 : Int)) (acc := (accL ab q)) (ws := (wdL n us)) i
          refine Ops.rowpos .here (by omega) ?_
          rintro vb5 rfl
          refine Ops.to rfl ?_
          refine Cd.seq ?_
          refine Cd.cond_t rfl ?_
          refine Cd.skipTo rfl ?_
          refine Cd.seq ?_
          refine Cd.block ?_
          refine Cd.seq ?_
          refine Cd.region ?_
          refine Ops.q (q_mv rfl) ?_
          refine Ops.q (q_ix (k := i) esz_26 rfl rfl (by omega)) ?_
          refine Ops.q (q_ldO isA_3 rfl .here (fm_at0 eInt_len (wantL_get (by omega)) rfl)) ?_
          refine Ops.q (q_asg rfl) ?_
          refine Ops.q (q_asg rfl) ?_
          refine Ops.to rfl ?_
          refine Cd.seq ?_
          refine Cd.seq ?_
          by_cases hb33 : bv = true
          · obtain rfl : bv = true := by simpa using hb33
            have hP : accP (mdNx q n xs q) (s0 : Int) (accL ab q) (wdL n us) i = true := getD_at hbv
            have hget := tksA_get (m := (wdL n us).length + 1) (show i < (wdL n us).length + 1 by omega) hP
            have hcl := (List.getElem?_eq_some_iff.1 hget).1
            refine Cd.region ?_
            refine Ops.q (q_fa fo_36_2 rfl) ?_
            refine Ops.q (q_ldB isA_23 rfl (.there (.there .here)) rfl) ?_
            refine Ops.q (q_mv rfl) ?_
            refine Ops.q (q_ix (k := (wN (mdNx q n xs q) (s0 : Int) (wdL n us) i)) esz_23 rfl rfl (by omega)) ?_
            refine Ops.q (q_ld (v := .bool true) isA_4 rfl (fun w hs => RoL.at0 ((hs.read (.there (.there (.there .here)))).2) eBool_len hbv rfl)) ?_
            refine Ops.q (q_not rfl) ?_
            refine Ops.to rfl ?_
            refine Cd.cond_f rfl ?_
            refine Cd.skipTo rfl ?_
            refine Cd.seq ?_
            refine Cd.seq ?_
            refine Cd.region ?_
            refine Ops.rowpos (.there .here) (by omega) ?_
            rintro gb rfl
            refine Ops.q (q_mv rfl) ?_
            refine Ops.q (q_mv rfl) ?_
            refine Ops.q (q_len esz_26 rfl) ?_
            refine Ops.q (q_cmp rfl rfl (c_nge (by omega))) ?_
            refine Ops.q (q_mv rfl) ?_
            refine Ops.q (q_mv rfl) ?_
            refine Ops.q (q_mv rfl) ?_
            refine Ops.q (q_ix (k := (cntA (mdNx q n xs q) (s0 : Int) (accL ab q) (wdL n us) i)) esz_26 rfl rfl (by omega)) ?_
            refine Ops.q (q_ldO isA_3 rfl (.there .here) (fm_at0 eInt_len hget rfl)) ?_
            refine Ops.q (q_mv rfl) ?_
            refine Ops.q (q_ar rfl rfl (a_mul (by omega))) ?_
            refine Ops.q (q_ar rfl rfl (a_add (by omega))) ?_
            refine Ops.q (q_cmp rfl rfl (c_nne (by omega))) ?_
            refine Ops.q (q_pickF rfl rfl) ?_
            refine Ops.to rfl ?_
            refine Cd.cond_f rfl ?_
            refine Cd.skipTo rfl ?_
            refine Cd.region ?_
            refine Ops.q (q_mv rfl) ?_
            refine Ops.q (q_ar rfl rfl (a_inc (by omega))) ?_
            refine Ops.q (q_asg rfl) ?_
            refine Ops.to rfl ?_
            refine Cd.region ?_
            refine Ops.q (q_ar rfl rfl (a_inc (by omega))) ?_
            refine Ops.q (q_mv rfl) ?_
            refine Ops.rnd (i + 1) rfl (by omega) (by omega) ⟨rfl, rfl, rfl, rfl, (by (try dsimp only); rw [cntA_yes hP]; rfl), rfl, trivial⟩ (fun _ hs => ((((hs.pull (.there (.there (.there .here)))).pull (.there (.there (.there .here)))).pull (.there (.there (.there .here)))).pull (.there (.there (.there .here))))) 
          · obtain rfl : bv = false := by simpa using hb33
            have hP : ¬ accP (mdNx q n xs q) (s0 : Int) (accL ab q) (wdL n us) i = true := by unfold accP; rw [getD_at hbv]; decide
            refine Cd.region ?_
            refine Ops.q (q_fa fo_36_2 rfl) ?_
            refine Ops.q (q_ldB isA_23 rfl (.there (.there .here)) rfl) ?_
            refine Ops.q (q_mv rfl) ?_
            refine Ops.q (q_ix (k := (wN (mdNx q n xs q) (s0 : Int) (wdL n us) i)) esz_23 rfl rfl (by omega)) ?_
            refine Ops.q (q_ld (v := .bool false) isA_4 rfl (fun w hs => RoL.at0 ((hs.read (.there (.there (.there .here)))).2) eBool_len hbv rfl)) ?_
            refine Ops.q (q_not rfl) ?_
            refine Ops.to rfl ?_
            refine Cd.cond_t rfl ?_
            refine Cd.exitTo rfl ?_
            refine Cd.region ?_
            refine Ops.q (q_ar rfl rfl (a_inc (by omega))) ?_
            refine Ops.q (q_mv rfl) ?_
            refine Ops.rnd (i + 1) rfl (by omega) (by omega) ⟨rfl, rfl, rfl, rfl, (by (try dsimp only); rw [cntA_no hP]; rfl), rfl, trivial⟩ (fun _ hs => ((((hs.pull (.there (.there (.there .here)))).pull (.there (.there (.there .here)))).pull (.there (.there (.there .here)))).pull (.there (.there (.there .here))))) 
        · refine Ops.q (q_cmp rfl rfl (c_nlt (by omega))) ?_
          have hi9 : i = (wdL n us).length + 1 := by omega
          have hcnt : (cntA (mdNx q n xs q) (s0 : Int) (accL ab q) (wdL n us) i) = (tksA (mdNx q n xs q) (s0 : Int) (accL ab q) (wdL n us) ((wdL n us).length + 1)).length := by rw [tksA_len, hi9]
          refine Ops.to rfl ?_
          refine Cd.seq ?_
          refine Cd.cond_f rfl ?_
          refine Cd.exitTo rfl ?_
          refine Cd.seq ?_
          refine Cd.region ?_
          refine Ops.q (q_mv rfl) ?_
          refine Ops.q (q_mv rfl) ?_
          refine Ops.q (q_len esz_26 rfl) ?_
          refine Ops.q (q_cmp rfl rfl (c_eq (by omega))) ?_
          refine Ops.q (q_mv rfl) ?_
          refine Ops.cp en_13 rfl (fun w hs => works_c w) ?_
          refine Ops.q (q_pickT rfl rfl) ?_
          refine Ops.q (q_asg rfl) ?_
          refine Ops.to rfl ?_
          refine Cd.rt (fn := Try.f8) [.bool true] (by with_reducible repeat (first | exact rq_here | apply rq_then | apply rq_block)) rfl ⟨rfl, trivial⟩ ?_
          intro w' hs'
          exact ⟨rfl, hs'.none⟩
end Go.Proofs.Ytilcdghliigngaa
