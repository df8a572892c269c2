/- Part of a claim: the program logic, the contracts of the functions, their models. No condition. -/
import Derived.WalkKit
import Derived.OwnWalkIn
import Derived.TacticsInMore
import Derived.OrdersIn
import Derived.RangeFuncLeaves
import Derived.RangeFuncNested
import Derived.Maps.AppendAt
import Derived.Shelf.Abstract
import Derived.Test.YtilcdghliigngaaProg
import Derived.MapKept
import Derived.Laws.StructEq
import Derived.Laws.OwnMore
import Derived.RangeFuncRecord
import Derived.Lib.SliceRun
import Derived.Lib.AppendZeros
import Derived.Lib.AppendZerosOnto
import Derived.Lib.Overlaps
import Derived.Laws.Externs
import Derived.Test.YtilcdghliigngaaPg4
namespace Go.Proofs.Ytilcdghliigngaa
open Go.RowKit Go.Proofs.YtilcdghliigngaaGl Go.Proofs.YtilcdghliigngaaPm
set_option linter.unusedVariables false
set_option linter.unusedSimpArgs false
set_option linter.unusedSectionVars false
section
variable {nx : List (List Int)} {st : Int} {acc : List Bool} {ws : List Int} {k : Nat}
def autV (nx : List (List Int)) (st : Int) (acc : List Bool) (ws : List Int) (k : Nat) : Nat → Nat → Int
  | 0, _ => 0
  | t + 1, d => if hN nx.length k d ≤ inX (autSs nx st acc k) (autF nx st acc ws k) (idlA ws k) t d then 0 else inX (autSs nx st acc k) (autF nx st acc ws k) (idlA ws k) t d
def blkA (nx : List (List Int)) (st : Int) (acc : List Bool) (ws : List Int) (k i : Nat) : List Evt :=
  [⟨((3 * i + 1 : Nat) : Int), wantA nx st ws i⟩] ++ ((if i < ws.length then [⟨((3 * i + 2 : Nat) : Int), ((nx.length + (k * (wantA nx st ws i).toNat + (ws.getD i 0).toNat) : Nat) : Int)⟩] else []) ++ (if acc.getD (wantA nx st ws i).toNat false = true then [⟨((3 * i + 2 : Nat) : Int), ((nx.length + nx.length * k : Nat) : Int)⟩] else []))
def outA (nx : List (List Int)) (st : Int) (acc : List Bool) (ws : List Int) (k : Nat) : List Evt := (List.range (ws.length + 1)).flatMap (blkA nx st acc ws k)
def evA (ws : List Int) (k : Nat) : List Evt := insI (evsW ws ws.length) (min 1 ws.length) ⟨0, (k : Int)⟩
namespace AutOK
variable (h : AutOK nx st acc ws k)
include h
theorem fires {t d : Nat} (hd : d < nx.length + nx.length * k + 1) : autF nx st acc ws k t d = decide (hN nx.length k d ≤ inX (autSs nx st acc k) (autF nx st acc ws k) (idlA ws k) t d) := by
  have key : ∀ {b : Bool} {p : Prop} [Decidable p], (p ↔ b = true) → b = decide p := fun {b p} _ e => by
    by_cases c : p
    · rw [e.1 c, decide_eq_true c]
    · rw [decide_eq_false c]
      cases b with
      | false => rfl
      | true => exact absurd (e.2 rfl) c
  refine key ?_
  unfold hN
  have hk := h.hk
  by_cases c1 : d < nx.length
  · rw [if_neg (by omega)]; exact h.at_state c1
  · by_cases c2 : d < nx.length + nx.length * k
    · rw [if_pos ⟨by omega, c2⟩]
      have hc : (d - nx.length) % k < k := Nat.mod_lt _ (by omega)
      have hq : (d - nx.length) / k < nx.length := (Nat.div_lt_iff_lt_mul (by omega)).2 (by omega)
      have e : d = nx.length + k * ((d - nx.length) / k) + (d - nx.length) % k := by
        have := Nat.div_add_mod (d - nx.length) k; omega
      have := h.at_trans2 (t := t) hq hc
      rw [← e] at this; exact this
    · have e : d = nx.length + nx.length * k := by omega
      rw [if_neg (by omega), e]; exact h.at_acc
theorem idl_ok (t : Nat) : (idlA ws k t).Pairwise (· < ·) ∧ ∀ i ∈ idlA ws k t, wi i 0 (((k + 1 : Nat) : Int) - 1) := by
  have hv := h.wsv (t / 3)
  unfold idlA wi
  by_cases c1 : t % 3 = 0 ∧ t / 3 < ws.length <;> by_cases c2 : t = 0
  · rw [if_pos c1, if_pos c2]
    refine ⟨?_, fun i hi => ?_⟩
    · simp only [List.cons_append, List.nil_append, List.pairwise_cons, List.mem_singleton, List.not_mem_nil, false_implies, implies_true, List.Pairwise.nil, and_true]
      intro a ha; omega
    · simp only [List.cons_append, List.nil_append, List.mem_cons, List.not_mem_nil, or_false] at hi; omega
  · rw [if_pos c1, if_neg c2]
    exact ⟨by simp, fun i hi => by simp only [List.append_nil, List.mem_singleton] at hi; omega⟩
  · rw [if_neg c1, if_pos c2]
    exact ⟨by simp, fun i hi => by simp only [List.nil_append, List.mem_singleton] at hi; omega⟩
  · rw [if_neg c1, if_neg c2]
    exact ⟨by simp, fun i hi => by simp at hi⟩
omit h in
theorem ev_blocks : ∀ m, m + 1 ≤ ws.length → evF (idlA ws k) 0 (3 * (m + 1)) = evW ws 0 :: (⟨0, (k : Int)⟩ :: (List.range m).map (fun j => evW ws (j + 1)))
  | 0, hm => by
    simp only [evF, idlA, evW]
    rw [if_pos (by constructor <;> first | trivial | omega)]
    simp
  | m + 1, hm => by
    have e : 3 * (m + 1 + 1) = 3 * (m + 1) + 1 + 1 + 1 := by omega
    rw [e, evF_app, evF_app, evF_app, ev_blocks m (by omega), List.range_succ, List.map_append]
    have e1 : idlA ws k (0 + 3 * (m + 1)) = [ws.getD (m + 1) 0] := by
      unfold idlA
      have : (0 + 3 * (m + 1)) / 3 = m + 1 := by omega
      rw [this, if_pos ⟨by omega, by omega⟩, if_neg (by omega)]; rfl
    have e2 : idlA ws k (0 + (3 * (m + 1) + 1)) = [] := by
      unfold idlA
      rw [if_neg (fun c => by omega), if_neg (by omega)]; rfl
    have e3 : idlA ws k (0 + (3 * (m + 1) + 1 + 1)) = [] := by
      unfold idlA
      rw [if_neg (fun c => by omega), if_neg (by omega)]; rfl
    rw [e1, e2, e3]
    simp [evW]
omit h in
theorem evF_eq : evF (idlA ws k) 0 (3 * ws.length + 20) = evA ws k := by
  unfold evA
  rcases Nat.eq_zero_or_pos ws.length with h0 | h0
  · rw [h0, show 3 * 0 + 20 = 1 + 19 from rfl, evF_more (T := 1) (fun t ht => by
      unfold idlA
      rw [if_neg (by omega), if_neg (by omega)]; rfl)]
    simp [evF, idlA, h0, insI, evsW]
  · obtain ⟨m, hm⟩ : ∃ m, ws.length = m + 1 := ⟨ws.length - 1, by omega⟩
    rw [evF_more (T := 3 * ws.length) (fun t ht => by
      unfold idlA
      rw [if_neg (by omega), if_neg (by omega)]; rfl)]
    rw [hm, ev_blocks m (by omega), show min 1 (m + 1) = 1 by omega]
    unfold insI evsW
    rw [List.range_succ_eq_map]
    simp [List.map_map, Function.comp_def]
theorem runO (hs8 : nx.length ≤ 8) (hk4 : k ≤ 4) (hl : ws.length ≤ 40) : runN ⟨(autN nx st acc k).ns, (autN nx st acc k).inp, (autN nx st acc k).ss⟩ (evA ws k) (3 * ws.length + 20) = some (outF (autF nx st acc ws k) (nx.length + nx.length * k + 1) (3 * ws.length + 20)) := by
  have hln : (mNs nx.length k (nx.length + nx.length * k + 1)).length = nx.length + nx.length * k + 1 := mNs_len _ _ _
  have hsk : nx.length * k ≤ 8 * 4 := Nat.mul_le_mul hs8 hk4
  have hX : ∀ t d, 0 ≤ inX (autSs nx st acc k) (autF nx st acc ws k) (idlA ws k) t d ∧ inX (autSs nx st acc k) (autF nx st acc ws k) (idlA ws k) t d ≤ 1600 := fun t d => by
    have h1 := inX_one (ss := autSs nx st acc k) (F := autF nx st acc ws k) (idl := idlA ws k) (k := t) (d := d) (fun s hs _ => h.wt1 hs)
    have h2 := h.ss_len
    exact ⟨h1.1, by have := h1.2.1; omega⟩
  have hT : (3 * ws.length + 20) * (nx.length + nx.length * k + 1) ≤ 140 * 41 := Nat.mul_le_mul (by omega) (by omega)
  have hr := sim_run (ns := mNs nx.length k (nx.length + nx.length * k + 1)) (ip := ((k + 1 : Nat) : Int)) (ss := autSs nx st acc k) (F := autF nx st acc ws k) (idl := idlA ws k) (V := autV nx st acc ws k) (T := 3 * ws.length + 20)
    ⟨fun p hp => by
      obtain ⟨j, _, rfl⟩ := List.mem_map.1 hp
      exact ⟨by unfold hN; split <;> decide, rfl⟩,
     fun s hs => by
      rw [hln]
      have h4 := h.st; have h5 := h.acc
      rcases ss_mem.1 hs with rfl | ⟨q, c, hq, hc, rfl | rfl | rfl⟩ | ⟨q, hq, hc, rfl⟩
      · dsimp only; omega
      · have := kq_lt hq (Nat.lt_of_lt_of_le hc (h.rlen q).1); dsimp only; omega
      · have := kq_lt hq (Nat.lt_of_lt_of_le hc (h.rlen q).1); dsimp only; omega
      · have := kq_lt hq (Nat.lt_of_lt_of_le hc (h.rlen q).1); have := h.rval hq (Nat.lt_of_lt_of_le hc (h.rlen q).1); dsimp only; omega
      · dsimp only; omega,
     fun t => ⟨(h.idl_ok t).1.imp (fun h => by omega), fun i hi => by have := (h.idl_ok t).2 i hi; unfold wi at this; omega⟩⟩
    (fun d => rfl)
    (fun t d _ hd => by have := hX t d; omega)
    (fun t d p _ hp => by
      obtain ⟨hd, e⟩ := List.getElem?_eq_some_iff.1 hp
      rw [hln] at hd
      have : p = gateP (hN nx.length k d) := by rw [← e]; simp [mNs]
      subst this
      have := hX t d
      rw [stepV_gate (by unfold hN; split <;> omega) (by omega), ← h.fires hd]; rfl)
    (by rw [hln]; omega)
  rw [hln, evF_eq] at hr
  exact hr
theorem out_none {t : Nat} (ht : t % 3 = 0 ∨ ws.length < t / 3) : (List.range (nx.length + nx.length * k + 1)).filter (autF nx st acc ws k t) = [] := filt_none (fun d _ hF => by
  unfold autF at hF
  split at hF
  · have := (decide_eq_true_eq.mp hF); omega
  · split at hF
    · have := (decide_eq_true_eq.mp hF); omega
    · have := (decide_eq_true_eq.mp hF); omega)
theorem out_block {i : Nat} (hi : i ≤ ws.length) : ((List.range (nx.length + nx.length * k + 1)).filter (autF nx st acc ws k (3 * i))).map (fun d : Nat => (⟨((3 * i : Nat) : Int), (d : Int)⟩ : Evt)) ++ (((List.range (nx.length + nx.length * k + 1)).filter (autF nx st acc ws k (3 * i + 1))).map (fun d : Nat => (⟨((3 * i + 1 : Nat) : Int), (d : Int)⟩ : Evt)) ++ ((List.range (nx.length + nx.length * k + 1)).filter (autF nx st acc ws k (3 * i + 2))).map (fun d : Nat => (⟨((3 * i + 2 : Nat) : Int), (d : Int)⟩ : Evt))) = blkA nx st acc ws k i := by
  have hw := h.want i; have hv := h.wsv i
  rw [h.out_none (t := 3 * i) (.inl (by omega)), filt_one (a := (wantA nx st ws i).toNat) (by omega) (fun d hd => ?_), List.range_succ, List.filter_append]
  · unfold blkA
    have hlt := kq_lt (s := nx.length) (q := (wantA nx st ws i).toNat) (k := k) (c := (ws.getD i 0).toNat) (by omega) (by omega)
    have e1 : (List.range (nx.length + nx.length * k)).filter (autF nx st acc ws k (3 * i + 2)) = if i < ws.length then [nx.length + (k * (wantA nx st ws i).toNat + (ws.getD i 0).toNat)] else [] := by
      have e5 : (3 * i + 2) / 3 = i := by omega
      by_cases c : i < ws.length
      · rw [if_pos c]
        refine filt_one (by omega) (fun d hd => ?_)
        unfold autF
        rw [e5]
        by_cases c1 : d < nx.length
        · rw [if_pos c1, decide_eq_true_eq]; omega
        · rw [if_neg c1, if_pos hd, decide_eq_true_eq]; omega
      · rw [if_neg c]
        refine filt_none (fun d hd => ?_)
        unfold autF
        rw [e5]
        by_cases c1 : d < nx.length
        · rw [if_pos c1, decide_eq_true_eq]; omega
        · rw [if_neg c1, if_pos hd, decide_eq_true_eq]; omega
    have e2 : autF nx st acc ws k (3 * i + 2) (nx.length + nx.length * k) = acc.getD (wantA nx st ws i).toNat false := by
      unfold autF
      rw [if_neg (by omega), if_neg (by omega), show (3 * i + 2) / 3 = i by omega]
      simp [hi]
    rw [e1, List.map_append, List.map_nil, List.nil_append]
    congr 1
    · simp; omega
    · congr 1
      · split <;> rfl
      · by_cases c : acc.getD (wantA nx st ws i).toNat false = true
        · rw [if_pos c]; simp only [List.filter_cons, e2, c, if_true, List.filter_nil, List.map_cons, List.map_nil]
        · have c' : acc.getD (wantA nx st ws i).toNat false = false := by simpa using c
          rw [if_neg c, List.filter_cons, e2, c', if_neg (by decide)]; rfl
  · unfold autF
    rw [show (3 * i + 1) / 3 = i by omega]
    by_cases c1 : d < nx.length
    · rw [if_pos c1, decide_eq_true_eq]; omega
    · rw [if_neg c1]
      split <;> (rw [decide_eq_true_eq]; omega)
theorem out_blocks : ∀ m, m ≤ ws.length + 1 → outF (autF nx st acc ws k) (nx.length + nx.length * k + 1) (3 * m) = (List.range m).flatMap (blkA nx st acc ws k)
  | 0, _ => rfl
  | m + 1, hm => by
    rw [show 3 * (m + 1) = 3 * m + 1 + 1 + 1 by omega, outF_next, outF_next, outF_next, out_blocks m (by omega), List.range_succ (n := m), List.flatMap_append, List.append_assoc, List.append_assoc]
    congr 1
    rw [h.out_block (i := m) (by omega)]; simp
theorem out_more : ∀ f, outF (autF nx st acc ws k) (nx.length + nx.length * k + 1) (3 * (ws.length + 1) + f) = outA nx st acc ws k
  | 0 => h.out_blocks _ (Nat.le_refl _)
  | f + 1 => by
    rw [← Nat.add_assoc, outF_next, out_more f, h.out_none (.inr (by omega))]; simp
theorem run (hs8 : nx.length ≤ 8) (hk4 : k ≤ 4) (hl : ws.length ≤ 40) : runN ⟨(autN nx st acc k).ns, (autN nx st acc k).inp, (autN nx st acc k).ss⟩ (evA ws k) (3 * ws.length + 20) = some (outA nx st acc ws k) := by
  rw [h.runO hs8 hk4 hl, show 3 * ws.length + 20 = 3 * (ws.length + 1) + 17 by omega, h.out_more]
end AutOK
end
end Go.Proofs.Ytilcdghliigngaa
namespace Go.Proofs.Ytilcdghliigngaa
open Go.RowKit Go.Proofs.YtilcdghliigngaaGl Go.Proofs.YtilcdghliigngaaPm
set_option linter.unusedVariables false
set_option linter.unusedSimpArgs false
set_option linter.unusedSectionVars false
section
variable {nx : List (List Int)} {st : Int} {acc : List Bool} {ws : List Int} {k : Nat}
namespace AutOK
variable (h : AutOK nx st acc ws k)
theorem out_len : (outA nx st acc ws k).length ≤ 3 * (ws.length + 1) := by
  unfold outA
  have : ∀ m : Nat, ((List.range m).flatMap (blkA nx st acc ws k)).length ≤ 3 * m := fun m => by
    induction m with
    | zero => simp
    | succ m ih =>
      rw [List.range_succ, List.flatMap_append, List.length_append]
      have : ([m].flatMap (blkA nx st acc ws k)).length ≤ 3 := by
        rw [List.flatMap_cons, List.flatMap_nil, List.append_nil]
        unfold blkA; split <;> split <;> simp
      omega
  exact this _
end AutOK
end
end Go.Proofs.Ytilcdghliigngaa
namespace Go.Proofs.Ytilcdghliigngaa
open Go.RowKit Go.Proofs.YtilcdghliigngaaGl Go.Proofs.YtilcdghliigngaaPm
set_option linter.unusedVariables false
set_option linter.unusedSimpArgs false
end Go.Proofs.Ytilcdghliigngaa
namespace Go.Proofs.Ytilcdghliigngaa
open Go.RowKit Go.Proofs.YtilcdghliigngaaGl Go.Proofs.YtilcdghliigngaaPm
set_option linter.unusedVariables false
set_option linter.unusedSimpArgs false
theorem numbers_n (xa ya : Option Addr) (xc yc : Nat) (xs ys : List Int) (m : Nat) (hm : ys.length = m) (w : World) (hX : RoL w xa eInt xs) (hY : RoL w ya eInt ys) (hl : xs.length ≤ 9223372036854775807) : Calls Try.prog 23 [.slice xa xs.length xc, .slice ya m yc].toArray w fun e w' => e = .returned (.bool (decide (xs = ys))) ∧ Sat w w' [] := by
  subst hm; exact numbers_c xa ya xc yc xs ys w hX hY hl
end Go.Proofs.Ytilcdghliigngaa
namespace Go.Proofs.Ytilcdghliigngaa
open Go.Proofs.YtilcdghliigngaaPm
set_option linter.unusedVariables false
set_option linter.unusedSimpArgs false
set_option linter.unusedSectionVars false
inductive WayE (g : List Edg) (s : Nat) : Nat → Nat → Prop
  | start : WayE g s 0 s
  | step {t u : Nat} {e : Edg} : WayE g s t u → e ∈ g → e.src = (u : Int) → WayE g s (t + e.len.toNat) e.dst.toNat
theorem nat_least {P : Nat → Prop} (h : ∃ n, P n) : ∃ n, P n ∧ ∀ m, P m → n ≤ m := by
  obtain ⟨n, hn⟩ := h
  induction n using Nat.strongRecOn with
  | ind n ih =>
    by_cases c : ∃ m, m < n ∧ P m
    · obtain ⟨m, h1, h2⟩ := c; exact ih m h1 h2
    · exact ⟨n, hn, fun m hm => Nat.le_of_not_lt fun hlt => c ⟨m, hlt, hm⟩⟩
open Classical in
noncomputable def dst (g : List Edg) (s d : Nat) : Int := if h : ∃ t, WayE g s t d then (((nat_least h).choose : Nat) : Int) else -1
theorem dst_spec (g : List Edg) (s d : Nat) : (dst g s d = -1 ∧ ∀ t, ¬ WayE g s t d) ∨ ∃ t : Nat, dst g s d = (t : Int) ∧ WayE g s t d ∧ ∀ m, WayE g s m d → t ≤ m := by
  unfold dst
  by_cases h : ∃ t, WayE g s t d
  · right
    rw [dif_pos h]
    exact ⟨_, rfl, (nat_least h).choose_spec⟩
  · left
    rw [dif_neg h]
    exact ⟨rfl, fun t ht => h ⟨t, ht⟩⟩
structure GOK (g : List Edg) (s v : Nat) : Prop where
  hv : 1 ≤ v ∧ v ≤ 40
  hs : s < v
  hl : g.length ≤ 120
  he : ∀ e ∈ g, 0 ≤ e.src ∧ e.src < (v : Int) ∧ 0 ≤ e.dst ∧ e.dst < (v : Int) ∧ 1 ≤ e.len ∧ e.len ≤ 16
section
variable {g : List Edg} {s v : Nat}
theorem dst_of {t d : Nat} (h : WayE g s t d) : 0 ≤ dst g s d ∧ dst g s d ≤ (t : Int) := by
  rcases dst_spec g s d with ⟨_, h2⟩ | ⟨t', h1, h2, h3⟩
  · exact absurd h (h2 t)
  · have := h3 t h; omega
theorem dst_reach {d : Nat} (h : 0 ≤ dst g s d) : ∃ t : Nat, dst g s d = (t : Int) ∧ WayE g s t d := by
  rcases dst_spec g s d with ⟨h1, h2⟩ | ⟨t', h1, h2, h3⟩
  · omega
  · exact ⟨t', h1, h2⟩
theorem dst_ge (d : Nat) : -1 ≤ dst g s d := by
  rcases dst_spec g s d with ⟨h1, h2⟩ | ⟨t', h1, h2, h3⟩ <;> omega
theorem dst_s : dst g s s = 0 := by have := dst_of (WayE.start (g := g) (s := s)); omega
namespace GOK
variable (h : GOK g s v)
include h
theorem p1 {e : Edg} (he : e ∈ g) (h0 : 0 ≤ dst g s e.src.toNat) : 0 ≤ dst g s e.dst.toNat ∧ dst g s e.dst.toNat ≤ dst g s e.src.toNat + e.len := by
  obtain ⟨t, h1, h2⟩ := dst_reach h0
  have hb := h.he e he
  have := dst_of (WayE.step h2 he (by omega)); omega
theorem p2 {d : Nat} (h0 : 0 ≤ dst g s d) : (d = s ∧ dst g s d = 0) ∨ ∃ e ∈ g, e.dst = (d : Int) ∧ 0 ≤ dst g s e.src.toNat ∧ dst g s e.src.toNat + e.len = dst g s d := by
  obtain ⟨t, h1, h2⟩ := dst_reach h0
  cases h2 with
  | start => exact .inl ⟨rfl, by omega⟩
  | step hr he hs =>
    rename_i t' u e
    right
    have hb := h.he e he
    have h3 := dst_of hr
    have hu : e.src.toNat = u := by omega
    refine ⟨e, he, by omega, by rw [hu]; exact h3.1, ?_⟩
    have := (h.p1 he (by rw [hu]; exact h3.1)).2
    rw [hu] at this ⊢
    omega
theorem lt {d : Nat} (h0 : 0 ≤ dst g s d) : d < v := by
  rcases h.p2 h0 with ⟨rfl, _⟩ | ⟨e, he, h1, _⟩
  · exact h.hs
  · have := h.he e he; omega
theorem pos {d : Nat} (hd : d ≠ s) (h0 : 0 ≤ dst g s d) : 1 ≤ dst g s d := by
  rcases h.p2 h0 with ⟨h1, _⟩ | ⟨e, he, h1, h2, h3⟩
  · exact absurd h1 hd
  · have := h.he e he; omega
end GOK
noncomputable def rnk (g : List Edg) (s v d : Nat) : Nat := ((List.range v).filter (fun u => decide (0 ≤ dst g s u ∧ dst g s u < dst g s d))).length
theorem filter_lt {p q : Nat → Bool} : ∀ {l : List Nat} {x : Nat}, (∀ y, p y = true → q y = true) → x ∈ l → q x = true → ¬ p x = true → (l.filter p).length < (l.filter q).length
  | [], x, _, hx, _, _ => by cases hx
  | y :: l, x, h, hx, h1, h2 => by
    have hle : ∀ l : List Nat, (l.filter p).length ≤ (l.filter q).length := fun l => by
      induction l with
      | nil => exact Nat.le_refl _
      | cons z l ih =>
        rw [List.filter_cons, List.filter_cons]
        by_cases c : p z = true
        · rw [if_pos c, if_pos (h z c)]; simpa using ih
        · rw [if_neg c]; split <;> (try simp only [List.length_cons]) <;> omega
    rw [List.filter_cons, List.filter_cons]
    rcases List.mem_cons.1 hx with rfl | hx
    · rw [if_neg h2, if_pos h1]; have := hle l; simp; omega
    · have ih := filter_lt (l := l) h hx h1 h2
      by_cases c : p y = true
      · rw [if_pos c, if_pos (h y c)]; simpa using ih
      · rw [if_neg c]; split <;> (try simp only [List.length_cons]) <;> omega
namespace GOK
variable (h : GOK g s v)
include h
theorem rnk_step {e : Edg} (he : e ∈ g) (h0 : 0 ≤ dst g s e.src.toNat) {d : Nat} (hd : dst g s e.src.toNat + e.len = dst g s d) : rnk g s v e.src.toNat < rnk g s v d := by
  have hb := h.he e he
  unfold rnk
  refine filter_lt (x := e.src.toNat) (fun y hy => ?_) (List.mem_range.2 (by omega)) ?_ ?_
  · simp only [decide_eq_true_eq] at hy ⊢; omega
  · simp only [decide_eq_true_eq]; omega
  · simp only [decide_eq_true_eq]; omega
theorem rnk_lt {d : Nat} (hd : d < v) : rnk g s v d < v := by
  have := filter_lt (p := fun u => decide (0 ≤ dst g s u ∧ dst g s u < dst g s d)) (q := fun _ => true) (l := List.range v) (x := d) (fun _ _ => rfl) (List.mem_range.2 hd) rfl (by simp only [decide_eq_true_eq]; omega)
  unfold rnk
  rw [List.filter_eq_self.2 (fun _ _ => rfl), List.length_range] at this
  exact this
theorem near : ∀ (k d : Nat), rnk g s v d ≤ k → 0 ≤ dst g s d → dst g s d ≤ 16 * (rnk g s v d : Int)
  | k, d, hk, h0 => by
    rcases h.p2 h0 with ⟨_, h1⟩ | ⟨e, he, h1, h2, h3⟩
    · omega
    · have hr := h.rnk_step he h2 h3
      have hb := h.he e he
      cases k with
      | zero => omega
      | succ k =>
        have := near k e.src.toNat (by omega) h2
        omega
theorem bound {d : Nat} (h0 : 0 ≤ dst g s d) : dst g s d + 16 ≤ 16 * (v : Int) := by
  have := h.near _ d (Nat.le_refl _) h0
  have := h.rnk_lt (h.lt h0)
  omega
end GOK
def relS (W : List Int) (e : Edg) : List Int := if 0 ≤ W.getD e.src.toNat 0 ∧ (W.getD e.dst.toNat 0 < 0 ∨ W.getD e.src.toNat 0 + e.len < W.getD e.dst.toNat 0) then W.set e.dst.toNat (W.getD e.src.toNat 0 + e.len) else W
def bfR (g : List Edg) (s v : Nat) : Nat → List Int
  | 0 => (List.replicate v (-1)).set s 0
  | r + 1 => g.foldl relS (bfR g s v r)
def bfW (g : List Edg) (s v r k : Nat) : List Int := (g.take k).foldl relS (bfR g s v r)
theorem getD_set (W : List Int) (i d : Nat) (x : Int) : (W.set i x).getD d 0 = if i = d ∧ i < W.length then x else W.getD d 0 := by
  simp only [List.getD, List.getElem?_set]
  by_cases c : i = d
  · subst c
    by_cases c2 : i < W.length
    · simp [c2]
    · simp [c2]
  · simp [c]
structure Inv (g : List Edg) (s v : Nat) (W : List Int) (m : Nat) : Prop where
  hlen : W.length = v
  hs : W.getD s 0 = 0
  all : ∀ d, d < v → W.getD d 0 = -1 ∨ ∃ t : Nat, W.getD d 0 = (t : Int) ∧ WayE g s t d ∧ t ≤ 16 * m
namespace GOK
variable (h : GOK g s v)
include h
theorem inv_step {W : List Int} {m : Nat} (hI : Inv g s v W m) {e : Edg} (he : e ∈ g) : Inv g s v (relS W e) (m + 1) := by
  have hb := h.he e he
  unfold relS
  split
  · rename_i hc
    have hs := hI.all e.src.toNat (by omega)
    obtain ⟨t, h1, h2, h3⟩ : ∃ t : Nat, W.getD e.src.toNat 0 = (t : Int) ∧ WayE g s t e.src.toNat ∧ t ≤ 16 * m := by
      rcases hs with h1 | h1
      · omega
      · exact h1
    have hne : e.dst.toNat ≠ s := by
      intro e'
      have h9 := hI.hs
      rw [← e'] at h9
      obtain ⟨_, c1 | c1⟩ := hc
      · omega
      · rw [h9, h1] at c1; omega
    refine ⟨by rw [List.length_set, hI.hlen], by rw [getD_set, if_neg (fun c => hne c.1), hI.hs], fun d hd => ?_⟩
    rw [getD_set]
    by_cases c : e.dst.toNat = d ∧ e.dst.toNat < W.length
    · rw [if_pos c]
      right
      exact ⟨t + e.len.toNat, by omega, c.1 ▸ WayE.step h2 he (by omega), by omega⟩
    · rw [if_neg c]
      rcases hI.all d hd with h4 | ⟨t', h4, h5, h6⟩
      · exact .inl h4
      · exact .inr ⟨t', h4, h5, by omega⟩
  · refine ⟨hI.hlen, hI.hs, fun d hd => ?_⟩
    rcases hI.all d hd with h4 | ⟨t', h4, h5, h6⟩
    · exact .inl h4
    · exact .inr ⟨t', h4, h5, by omega⟩
theorem inv_fold : ∀ {l : List Edg} {W : List Int} {m : Nat}, Inv g s v W m → (∀ e ∈ l, e ∈ g) → Inv g s v (l.foldl relS W) (m + l.length)
  | [], W, m, hI, _ => hI
  | e :: l, W, m, hI, hl => by
    have := inv_fold (l := l) (h.inv_step hI (hl e (.head _))) (fun x hx => hl x (.tail _ hx))
    rw [List.foldl_cons, List.length_cons, show m + (l.length + 1) = m + 1 + l.length by omega]; exact this
theorem inv_0 : Inv g s v (bfR g s v 0) 0 := by
  have hs := h.hs
  have hg : ∀ d, d < v → (List.replicate v (-1 : Int)).getD d 0 = -1 := fun d hd => by simp [List.getD, hd]
  refine ⟨by simp [bfR], by unfold bfR; rw [getD_set, if_pos ⟨rfl, by simpa using hs⟩], fun d hd => ?_⟩
  unfold bfR
  rw [getD_set]
  by_cases c : s = d ∧ s < (List.replicate v (-1 : Int)).length
  · rw [if_pos c]; right; exact ⟨0, rfl, c.1 ▸ WayE.start, Nat.zero_le _⟩
  · rw [if_neg c, hg d hd]; exact .inl rfl
theorem inv_R : ∀ r, Inv g s v (bfR g s v r) (r * g.length)
  | 0 => by rw [Nat.zero_mul]; exact h.inv_0
  | r + 1 => by
    rw [Nat.succ_mul]
    exact h.inv_fold (inv_R r) (fun _ hx => hx)
theorem inv_W (r k : Nat) : Inv g s v (bfW g s v r k) (r * g.length + (g.take k).length) := h.inv_fold (h.inv_R r) (fun x hx => List.mem_of_mem_take hx)
theorem keeps {W : List Int} {m : Nat} (hI : Inv g s v W m) {e : Edg} (he : e ∈ g) {u : Nat} (hu : W.getD u 0 = dst g s u) (h0 : 0 ≤ dst g s u) : (relS W e).getD u 0 = dst g s u := by
  have hN := h.inv_step hI he
  have hlt := h.lt h0
  unfold relS at hN ⊢
  split
  · rename_i hc
    rw [if_pos hc] at hN
    rw [getD_set]
    by_cases c : e.dst.toNat = u ∧ e.dst.toNat < W.length
    · have h1 := hN.all u hlt
      rw [getD_set, if_pos c] at h1
      rw [if_pos c]
      rw [c.1, hu] at hc
      have hb := h.he e he
      rcases h1 with h1 | ⟨t, h1, h2, _⟩
      · omega
      · have := (dst_of h2).2; omega
    · rw [if_neg c]; exact hu
  · exact hu
theorem keeps_fold : ∀ {l : List Edg} {W : List Int} {m : Nat}, Inv g s v W m → (∀ e ∈ l, e ∈ g) → ∀ {u : Nat}, W.getD u 0 = dst g s u → 0 ≤ dst g s u → (l.foldl relS W).getD u 0 = dst g s u
  | [], W, m, hI, _, u, hu, h0 => hu
  | e :: l, W, m, hI, hl, u, hu, h0 => keeps_fold (l := l) (h.inv_step hI (hl e (.head _))) (fun x hx => hl x (.tail _ hx)) (h.keeps hI (hl e (.head _)) hu h0) h0
theorem comes : ∀ {l : List Edg} {W : List Int} {m : Nat}, Inv g s v W m → (∀ e ∈ l, e ∈ g) → ∀ {e : Edg}, e ∈ l → W.getD e.src.toNat 0 = dst g s e.src.toNat → 0 ≤ dst g s e.src.toNat → dst g s e.src.toNat + e.len = dst g s e.dst.toNat → (l.foldl relS W).getD e.dst.toNat 0 = dst g s e.dst.toNat
  | [], W, m, hI, _, e, he, _, _, _ => by cases he
  | x :: l, W, m, hI, hl, e, he, hu, h0, hd => by
    have hx := hl x (.head _)
    have hl' : ∀ y ∈ l, y ∈ g := fun y hy => hl y (.tail _ hy)
    rw [List.foldl_cons]
    rcases List.mem_cons.1 he with rfl | he
    · have hb := h.he e hx
      have h1 := h.p1 hx h0
      refine h.keeps_fold (h.inv_step hI hx) hl' ?_ h1.1
      unfold relS
      split
      · rw [getD_set, if_pos ⟨rfl, by rw [hI.hlen]; omega⟩, hu, hd]
      · rename_i hc
        rcases hI.all e.dst.toNat (by omega) with h4 | ⟨t, h4, h5, _⟩
        · omega
        · have := (dst_of h5).2; omega
    · exact comes (l := l) (h.inv_step hI hx) hl' he (h.keeps hI hx hu h0) h0 hd
theorem exacts : ∀ (k d : Nat), rnk g s v d ≤ k → 0 ≤ dst g s d → (bfR g s v k).getD d 0 = dst g s d
  | k, d, hk, h0 => by
    rcases h.p2 h0 with ⟨rfl, h1⟩ | ⟨e, he, h1, h2, h3⟩
    · rw [(h.inv_R k).hs, h1]
    · have hr := h.rnk_step he h2 h3
      have hb := h.he e he
      cases k with
      | zero => omega
      | succ k =>
        have ed : e.dst.toNat = d := by omega
        have := h.comes (h.inv_R k) (fun _ hx => hx) he (exacts k e.src.toNat (by omega) h2) h2 (by rw [ed]; exact h3)
        rw [ed] at this; exact this
theorem bf_all : bfR g s v v = (List.range v).map (dst g s) := by
  have hI := h.inv_R v
  refine List.ext_getElem? fun d => ?_
  by_cases hd : d < v
  · rw [List.getElem?_map, List.getElem?_range hd]
    obtain ⟨x, hx⟩ : ∃ x, (bfR g s v v)[d]? = some x := ⟨_, List.getElem?_eq_getElem (by rw [hI.hlen]; exact hd)⟩
    have hg : (bfR g s v v).getD d 0 = x := by simp [List.getD, hx]
    rw [hx]
    show some x = some (dst g s d)
    congr 1
    rw [← hg]
    by_cases h0 : 0 ≤ dst g s d
    · exact h.exacts v d (Nat.le_of_lt (h.rnk_lt hd)) h0
    · have h1 := dst_ge (g := g) (s := s) d
      rcases hI.all d hd with h4 | ⟨t, h4, h5, _⟩
      · omega
      · have := (dst_of h5).1; omega
  · rw [List.getElem?_eq_none (by rw [hI.hlen]; omega), List.getElem?_eq_none (by simp; omega)]
end GOK
end
end Go.Proofs.Ytilcdghliigngaa
namespace Go.Proofs.Ytilcdghliigngaa
open Go.RowKit Go.Proofs.YtilcdghliigngaaGl Go.Proofs.YtilcdghliigngaaPm
set_option linter.unusedVariables false
set_option linter.unusedSimpArgs false
set_option linter.unusedSectionVars false
section
variable {g : List Edg} {s v : Nat}
noncomputable def spF (g : List Edg) (s t d : Nat) : Bool := decide (0 ≤ dst g s d ∧ (t : Int) = dst g s d + 1)
def idl0 (t : Nat) : List Int := if t = 0 then [0] else []
def pathSs (g : List Edg) (s v : Nat) : List Syn := ([⟨-1, (s : Int), 1, 1⟩] ++ selvesFrom 0 v) ++ g.map fun e => ⟨e.src, e.dst, 1, e.len⟩
def pathN (g : List Edg) (s v : Nat) : NetP := ⟨(List.replicate v (1 : Int)).map (setTh (onceP 0)), 1, pathSs g s v⟩
noncomputable def cE (g : List Edg) (s t d : Nat) : Int := sumI (fun e : Edg => if e.dst = (d : Int) ∧ 0 ≤ dst g s e.src.toNat ∧ (t : Int) = dst g s e.src.toNat + 1 + e.len then 1 else 0) g
noncomputable def cumE (g : List Edg) (s t d : Nat) : Int := sumI (fun e : Edg => if e.dst = (d : Int) ∧ 0 ≤ dst g s e.src.toNat ∧ dst g s e.src.toNat + 1 + e.len < (t : Int) then 1 else 0) g
noncomputable def pX (g : List Edg) (s t d : Nat) : Int := ((if t = 1 ∧ d = s then 1 else 0) + (if 1 ≤ t ∧ spF g s (t - 1) d = true then -32768 else 0)) + cE g s t d
noncomputable def pV (g : List Edg) (s : Nat) : Nat → Nat → Int
  | 0, _ => 0
  | t + 1, d => (stepV (setTh (onceP 0) 1) (pV g s t d) (pX g s t d)).1
noncomputable def outP (g : List Edg) (s v : Nat) : List Evt := outF (spF g s) v (16 * v)
namespace GOK
variable (h : GOK g s v)
include h
theorem cE_b (t d : Nat) : 0 ≤ cE g s t d ∧ cE g s t d ≤ 120 ∧ 0 ≤ cumE g s t d ∧ cumE g s t d ≤ 120 ∧ cumE g s (t + 1) d = cumE g s t d + cE g s t d := by
  have hl := h.hl
  refine ⟨sumI_nonneg (fun e _ => by split <;> omega), ?_, sumI_nonneg (fun e _ => by split <;> omega), ?_, ?_⟩
  · have := sumI_le (f := fun e : Edg => if e.dst = (d : Int) ∧ 0 ≤ dst g s e.src.toNat ∧ (t : Int) = dst g s e.src.toNat + 1 + e.len then (1 : Int) else 0) (xs := g) (fun e _ => by split <;> omega)
    unfold cE; omega
  · have := sumI_le (f := fun e : Edg => if e.dst = (d : Int) ∧ 0 ≤ dst g s e.src.toNat ∧ dst g s e.src.toNat + 1 + e.len < (t : Int) then (1 : Int) else 0) (xs := g) (fun e _ => by split <;> omega)
    unfold cumE; omega
  · unfold cumE cE
    rw [← sumI_add]
    refine sumI_congr (fun e _ => ?_)
    by_cases c1 : e.dst = (d : Int) ∧ 0 ≤ dst g s e.src.toNat ∧ dst g s e.src.toNat + 1 + e.len < (t : Int)
    · rw [if_pos ⟨c1.1, c1.2.1, by omega⟩, if_pos c1, if_neg (by omega)]; rfl
    · by_cases c2 : e.dst = (d : Int) ∧ 0 ≤ dst g s e.src.toNat ∧ (t : Int) = dst g s e.src.toNat + 1 + e.len
      · rw [if_pos ⟨c2.1, c2.2.1, by omega⟩, if_neg c1, if_pos c2]; rfl
      · rw [if_neg (fun c => by omega), if_neg c1, if_neg c2]; rfl
theorem cE_zero {t d : Nat} (hd : dst g s d < 0 ∨ (t : Int) < dst g s d + 1) : cE g s t d = 0 := sumI_zero (fun e he => if_neg (fun c => by
  have hb := h.he e he
  have h1 := h.p1 he c.2.1
  have h2 : e.dst.toNat = d := by omega
  rw [h2] at h1; omega))
theorem cE_one {t d : Nat} (h0 : 0 ≤ dst g s d) (ht : (t : Int) = dst g s d + 1) (hd : d ≠ s) : 1 ≤ cE g s t d := by
  rcases h.p2 h0 with ⟨h1, _⟩ | ⟨e, he, h1, h2, h3⟩
  · exact absurd h1 hd
  · exact sumI_pos (fun e _ => by split <;> omega) he (by rw [if_pos ⟨h1, h2, by omega⟩]; exact Int.le_refl _)
theorem path_inX {t d : Nat} (hd : d < v) : inX (pathSs g s v) (spF g s) idl0 t d = pX g s t d := by
  unfold inX pathSs pX
  rw [sumI_app, sumI_app, selves_sum, if_pos ⟨by omega, by omega⟩, sumI_map]
  congr 1
  · congr 1
    simp only [sumI]
    have e1 : ((t : Int) - 1).toNat = t - 1 := by omega
    have e2 : srcF (spF g s) idl0 (t - 1) (-1) = decide (t - 1 = 0) := by
      unfold srcF idl0
      rw [if_neg (by omega)]
      by_cases c : t - 1 = 0
      · rw [if_pos c]; simp [c]
      · rw [if_neg c]; simp [c]
    rw [e1, e2]
    by_cases c : t = 1 ∧ d = s
    · rw [if_pos c, if_pos ⟨by omega, by omega, by simp; omega⟩]; rfl
    · rw [if_neg c, if_neg (fun c' => by have := decide_eq_true_eq.mp c'.2.2; omega)]; rfl
  · refine sumI_congr (fun e he => ?_)
    have hb := h.he e he
    have e3 : ∀ k, srcF (spF g s) idl0 k e.src = decide (0 ≤ dst g s e.src.toNat ∧ (k : Int) = dst g s e.src.toNat + 1) := fun k => by
      unfold srcF; rw [if_pos hb.1]; rfl
    dsimp only
    rw [e3]
    by_cases c : e.dst = (d : Int) ∧ 0 ≤ dst g s e.src.toNat ∧ (t : Int) = dst g s e.src.toNat + 1 + e.len
    · rw [if_pos c, if_pos ⟨c.1, by omega, by rw [decide_eq_true_eq]; omega⟩]
    · rw [if_neg c, if_neg (fun c' => by have := decide_eq_true_eq.mp c'.2.2; omega)]
theorem pV_inv (d : Nat) (hd : d < v) (t : Nat) : ((dst g s d < 0 ∨ (t : Int) ≤ dst g s d + 2) → pV g s t d = 0) ∧ (0 ≤ dst g s d → dst g s d + 3 ≤ (t : Int) → pV g s t d ≤ -32768 + cumE g s t d ∧ -1048576 ≤ pV g s t d) := by
  have hge := dst_ge (g := g) (s := s) d
  have hs0 := dst_s (g := g) (s := s)
  induction t with
  | zero => exact ⟨fun _ => rfl, fun h0 h1 => by omega⟩
  | succ t ih =>
    obtain ⟨i1, i2⟩ := ih
    have hb' := h.cE_b t d
    have hz := h.cE_zero (t := t) (d := d)
    have hone := h.cE_one (t := t) (d := d)
    have hX : pX g s t d = ((if t = 1 ∧ d = s then 1 else 0) + (if 1 ≤ t ∧ spF g s (t - 1) d = true then -32768 else 0)) + cE g s t d := rfl
    have hsp : ∀ u, spF g s u d = true ↔ 0 ≤ dst g s d ∧ (u : Int) = dst g s d + 1 := fun u => by unfold spF; rw [decide_eq_true_eq]
    have hst : (if t = 1 ∧ d = s then (1 : Int) else 0) = if t = 1 ∧ d = s then 1 else 0 := rfl
    refine ⟨fun hc => ?_, fun h0 h1 => ?_⟩
    · show (stepV (setTh (onceP 0) 1) (pV g s t d) (pX g s t d)).1 = 0
      rw [stepV_once, i1 (by omega)]
      by_cases c1 : 0 ≤ dst g s d ∧ (t : Int) = dst g s d + 1
      · have hx : 1 ≤ pX g s t d ∧ pX g s t d ≤ 200 := by
          rw [hX, if_neg (show ¬ (1 ≤ t ∧ spF g s (t - 1) d = true) from fun c => by have := (hsp _).1 c.2; omega)]
          by_cases c2 : d = s
          · rw [if_pos ⟨by rw [c2, hs0] at c1; omega, c2⟩]; omega
          · have := hone c1.1 c1.2 c2
            rw [if_neg (fun c => c2 c.2)]; omega
        rw [if_neg (by omega)]
      · have hx : pX g s t d = 0 := by
          rw [hX, hz (by omega), if_neg (show ¬ (1 ≤ t ∧ spF g s (t - 1) d = true) from fun c => by have := (hsp _).1 c.2; omega), if_neg (show ¬ (t = 1 ∧ d = s) from fun c => c1 (by rw [c.2, hs0, c.1]; decide))]; rfl
        rw [hx, if_pos (by decide)]; rfl
    · show (stepV (setTh (onceP 0) 1) (pV g s t d) (pX g s t d)).1 ≤ _ ∧ _ ≤ (stepV (setTh (onceP 0) 1) (pV g s t d) (pX g s t d)).1
      rw [hb'.2.2.2.2, stepV_once]
      have hx1 : ¬ (t = 1 ∧ d = s) := fun c => by omega
      by_cases c1 : (t : Int) = dst g s d + 2
      · have hx : pX g s t d = -32768 + cE g s t d := by
          rw [hX, if_neg hx1, if_pos ⟨by omega, (hsp _).2 ⟨h0, by omega⟩⟩]; omega
        rw [i1 (by omega), hx, if_pos (by omega)]
        dsimp only; omega
      · have hx : pX g s t d = cE g s t d := by
          rw [hX, if_neg hx1, if_neg (show ¬ (1 ≤ t ∧ spF g s (t - 1) d = true) from fun c => by have := (hsp _).1 c.2; omega)]; omega
        have := i2 h0 (by omega)
        rw [hx, if_pos (by omega)]
        dsimp only; omega
theorem pV_fire (d : Nat) (hd : d < v) (t : Nat) : (stepV (setTh (onceP 0) 1) (pV g s t d) (pX g s t d)).2 = spF g s t d := by
    have hb := h.cE_b t d
    have hge := dst_ge (g := g) (s := s) d
    have hs0 := dst_s (g := g) (s := s)
    have hprev := h.pV_inv d hd t
    obtain ⟨i1, i2⟩ := hprev
    have hz := h.cE_zero (t := t) (d := d)
    have hone := h.cE_one (t := t) (d := d)
    have hX : pX g s t d = ((if t = 1 ∧ d = s then 1 else 0) + (if 1 ≤ t ∧ spF g s (t - 1) d = true then -32768 else 0)) + cE g s t d := rfl
    have hsp : ∀ u, spF g s u d = true ↔ 0 ≤ dst g s d ∧ (u : Int) = dst g s d + 1 := fun u => by unfold spF; rw [decide_eq_true_eq]
    have key : ∀ b : Bool, (b = true ↔ spF g s t d = true) → b = spF g s t d := fun b e => by
      cases b <;> cases hh : spF g s t d <;> simp_all
    refine key _ ?_
    rw [stepV_once, hsp]
    by_cases c1 : 0 ≤ dst g s d ∧ (t : Int) = dst g s d + 1
    · have hx : 1 ≤ pX g s t d ∧ pX g s t d ≤ 200 := by
        rw [hX, if_neg (show ¬ (1 ≤ t ∧ spF g s (t - 1) d = true) from fun c => by have := (hsp _).1 c.2; omega)]
        by_cases c2 : d = s
        · rw [if_pos ⟨by rw [c2, hs0] at c1; omega, c2⟩]; omega
        · have := hone c1.1 c1.2 c2
          rw [if_neg (fun c => c2 c.2)]; omega
      rw [i1 (by omega), if_neg (by omega)]
      exact ⟨fun _ => c1, fun _ => rfl⟩
    · refine ⟨fun hc => ?_, fun hc => absurd hc c1⟩
      exfalso
      have hno : max (-1048576) (min 1048576 (pV g s t d + max (-4194304) (min 4194304 (pX g s t d)))) < 1 := by
        by_cases c2 : dst g s d < 0 ∨ (t : Int) < dst g s d + 1
        · have hx : pX g s t d = 0 := by
            rw [hX, hz c2, if_neg (show ¬ (1 ≤ t ∧ spF g s (t - 1) d = true) from fun c => by have := (hsp _).1 c.2; omega), if_neg (show ¬ (t = 1 ∧ d = s) from fun c => by rw [c.2, hs0, c.1] at c1 c2; omega)]; rfl
          rw [hx, i1 (by omega)]; decide
        · have hx1 : ¬ (t = 1 ∧ d = s) := fun c => by rw [c.2, hs0] at c1 c2; omega
          by_cases c3 : (t : Int) = dst g s d + 2
          · have hx : pX g s t d = -32768 + cE g s t d := by
              rw [hX, if_neg hx1, if_pos ⟨by omega, (hsp _).2 ⟨by omega, by omega⟩⟩]; omega
            rw [i1 (by omega), hx]; omega
          · have hx : pX g s t d = cE g s t d := by
              rw [hX, if_neg hx1, if_neg (show ¬ (1 ≤ t ∧ spF g s (t - 1) d = true) from fun c => by have := (hsp _).1 c.2; omega)]; omega
            have := i2 (by omega) (by omega)
            rw [hx]; omega
      rw [if_pos hno] at hc
      simp at hc
theorem path_net : netCheck (pathN g s v) = 0 := by
  have h1 := h.hv; have h2 := h.hs; have h3 := h.hl
  have hl : ((List.replicate v (1 : Int)).map (setTh (onceP 0))).length = v := by simp
  have hss : (pathSs g s v).length ≤ 1 + 40 + 120 := by
    unfold pathSs; simp only [List.length_append, List.length_cons, List.length_nil, List.length_map, selves_len]; omega
  have e1 : firstE nCheck ((List.replicate v (1 : Int)).map (setTh (onceP 0))) = 0 := firstE_all (fun p hp => by
    obtain ⟨j, hj, rfl⟩ := List.mem_map.1 hp
    obtain rfl := List.eq_of_mem_replicate hj
    exact once_ok (by omega) (by omega))
  have e2 : firstE (synE ((List.replicate v (1 : Int)).map (setTh (onceP 0))).length 1) (pathSs g s v) = 0 := firstE_all (fun y hy => by
    unfold synE
    rw [if_pos]
    rw [hl]
    unfold pathSs at hy
    rcases List.mem_append.1 hy with hy | hy
    · rcases List.mem_append.1 hy with hy | hy
      · obtain rfl := List.mem_singleton.1 hy; unfold wi; dsimp only; omega
      · obtain ⟨j, _, h5, rfl⟩ := selves_mem hy; unfold wi; dsimp only; omega
    · obtain ⟨e, he, rfl⟩ := List.mem_map.1 hy
      have := h.he e he
      unfold wi; dsimp only; omega)
  unfold netCheck pathN
  dsimp only
  rw [hl] at e2 ⊢
  rw [if_neg (by omega), if_neg (by omega), if_neg (by omega), if_neg (by rw [e1]; decide)]
  exact e2
theorem ev0 : evF idl0 0 (16 * v) = [⟨0, 0⟩] := by
  have h1 := h.hv
  rw [show 16 * v = 1 + (16 * v - 1) by omega, evF_more (T := 1) (fun t ht => by unfold idl0; rw [if_neg (by omega)])]
  rfl
theorem path_prep : preparedE ⟨(pathN g s v).ns, (pathN g s v).inp, (pathN g s v).ss⟩ [⟨0, 0⟩] (16 * (v : Int)) 10000 = 0 := by
  have h0 := h.hv
  have h1 := h.path_net
  unfold preparedE
  rw [if_neg (by rw [show netCheck ⟨(pathN g s v).ns, (pathN g s v).inp, (pathN g s v).ss⟩ = 0 from h1]; decide), if_pos (by unfold wi; omega)]
  unfold orderedE
  rw [if_neg (by decide), ← h.ev0]
  refine evF_ord (fun k => ?_) (fun k i hi => ?_) (16 * v) 0 none (by omega) (fun e h => by cases h)
  · unfold idl0; split <;> simp
  · unfold idl0 at hi
    split at hi
    · obtain rfl := List.mem_singleton.1 hi; show (0 : Int) ≤ 0 ∧ (0 : Int) ≤ (1 : Int) - 1; decide
    · cases hi
theorem path_run : runN ⟨(pathN g s v).ns, (pathN g s v).inp, (pathN g s v).ss⟩ [⟨0, 0⟩] (16 * v) = some (outP g s v) := by
  have h1 := h.hv; have h2 := h.hs
  have hl : ((List.replicate v (1 : Int)).map (setTh (onceP 0))).length = v := by simp
  have hr := sim_run (ns := (List.replicate v (1 : Int)).map (setTh (onceP 0))) (ip := 1) (ss := pathSs g s v) (F := spF g s) (idl := idl0) (V := pV g s) (T := 16 * v)
    ⟨fun p hp => by
      obtain ⟨j, hj, rfl⟩ := List.mem_map.1 hp
      obtain rfl := List.eq_of_mem_replicate hj
      exact ⟨once_ok (by omega) (by omega), rfl⟩,
     fun y hy => by
      rw [hl]
      unfold pathSs at hy
      rcases List.mem_append.1 hy with hy | hy
      · rcases List.mem_append.1 hy with hy | hy
        · obtain rfl := List.mem_singleton.1 hy; dsimp only; omega
        · obtain ⟨j, _, h5, rfl⟩ := selves_mem hy; dsimp only; omega
      · obtain ⟨e, he, rfl⟩ := List.mem_map.1 hy
        have := h.he e he
        dsimp only; omega,
     fun t => by
      unfold idl0
      split
      · exact ⟨by simp, fun i hi => by obtain rfl := List.mem_singleton.1 hi; decide⟩
      · exact ⟨by simp, fun i hi => by cases hi⟩⟩
    (fun d => rfl)
    (fun t d _ hd => by
      rw [hl] at hd
      have hb := h.cE_b t d
      rw [h.path_inX hd]
      unfold pX
      split <;> split <;> omega)
    (fun t d p _ hp => by
      obtain ⟨hd, e⟩ := List.getElem?_eq_some_iff.1 hp
      rw [hl] at hd
      have : p = setTh (onceP 0) 1 := by rw [← e]; simp
      subst this
      rw [h.path_inX hd]
      exact Prod.ext rfl (h.pV_fire d hd t))
    (by rw [hl]; have : 16 * v * v ≤ 16 * 40 * 40 := Nat.mul_le_mul (Nat.mul_le_mul_left 16 h1.2) h1.2; omega)
  rw [hl, h.ev0] at hr
  exact hr
end GOK
end
end Go.Proofs.Ytilcdghliigngaa
namespace Go.Proofs.Ytilcdghliigngaa
open Go.RowKit Go.Proofs.YtilcdghliigngaaGl Go.Proofs.YtilcdghliigngaaPm
set_option linter.unusedVariables false
set_option linter.unusedSimpArgs false
set_option linter.unusedSectionVars false
section
variable {g : List Edg} {s v : Nat}
noncomputable def dL (g : List Edg) (s v : Nat) : List Int := (List.range v).map (dst g s)
theorem dL_len (g : List Edg) (s v : Nat) : (dL g s v).length = v := by unfold dL; simp
theorem dL_get {d : Nat} (hd : d < v) : (dL g s v)[d]? = some (dst g s d) := by unfold dL; rw [List.getElem?_map, List.getElem?_range hd]; rfl
theorem dL_getD {d : Nat} (hd : d < v) : (dL g s v).getD d 0 = dst g s d := by simp [List.getD, dL_get hd]
theorem getD_some {xs : List Int} {d : Nat} (h : d < xs.length) : xs[d]? = some (xs.getD d 0) := by
  simp [List.getD, h]
theorem list_eq {xs : List Int} {f : Nat → Int} {n : Nat} (hl : xs.length = n) (h : ∀ d, d < n → xs.getD d 0 = f d) : xs = (List.range n).map f := by
  refine List.ext_getElem? fun d => ?_
  by_cases hd : d < n
  · rw [getD_some (by omega), h d hd, List.getElem?_map, List.getElem?_range hd]; rfl
  · rw [List.getElem?_eq_none (by omega), List.getElem?_eq_none (by simp; omega)]
theorem outF_cnt (F : Nat → Nat → Bool) {n i : Nat} (hi : i < n) : ∀ k, ((outF F n k).filter (fun e => decide (e.id = (i : Int)))).length = ((List.range k).filter (fun t => F t i)).length
  | 0 => rfl
  | k + 1 => by
    rw [outF_next, List.filter_append, List.length_append, outF_cnt F hi k, List.range_succ (n := k), List.filter_append, List.length_append]
    congr 1
    rw [List.filter_map]
    have e1 : ((List.range n).filter (F k)).filter ((fun e : Evt => decide (e.id = (i : Int))) ∘ fun d : Nat => (⟨(k : Int), (d : Int)⟩ : Evt)) = if F k i = true then [i] else [] := by
      rw [List.filter_filter]
      by_cases c : F k i = true
      · rw [if_pos c]
        refine filt_one hi (fun d hd => ?_)
        simp only [Function.comp, Bool.and_eq_true, decide_eq_true_eq]
        constructor
        · rintro ⟨h1, h2⟩; omega
        · rintro rfl; exact ⟨by simp, c⟩
      · rw [if_neg c]
        refine filt_none (fun d hd => ?_)
        simp only [Function.comp, Bool.and_eq_true, decide_eq_true_eq]
        rintro ⟨h1, h2⟩
        have : d = i := by omega
        subst this; exact c h2
    rw [e1]
    by_cases c : F k i = true
    · simp [c]
    · simp [c]
def cntL (v : Nat) (l : List Evt) : List Int := (List.range v).map (fun d : Nat => ((l.filter (fun e : Evt => decide (e.id = (d : Int)))).length : Int))
theorem cntL_len (v : Nat) (l : List Evt) : (cntL v l).length = v := by unfold cntL; simp
theorem cntL_getD {l : List Evt} {d : Nat} (hd : d < v) : (cntL v l).getD d 0 = ((l.filter (fun e => decide (e.id = (d : Int)))).length : Int) := by
  unfold cntL; simp [List.getD, hd]
theorem cntL_nil (v : Nat) : (cntL v []) = List.replicate v 0 := by
  unfold cntL
  refine List.ext_getElem? fun d => ?_
  by_cases hd : d < v
  · simp [hd]
  · simp [hd]
theorem cntL_step {l : List Evt} {k : Nat} {x : Evt} {i : Nat} (hx : l[k]? = some x) (hi : x.id = (i : Int)) : cntL v (l.take (k + 1)) = (cntL v (l.take k)).set i ((cntL v (l.take k)).getD i 0 + 1) := by
  symm
  refine list_eq (by rw [List.length_set, cntL_len]) (fun d hd => ?_)
  rw [getD_set, List.take_add_one, hx, List.filter_append, List.length_append, cntL_len]
  by_cases c : i = d ∧ i < v
  · rw [if_pos c]
    obtain ⟨rfl, _⟩ := c
    rw [cntL_getD hd]
    have : ([x].filter (fun e => decide (e.id = (i : Int)))).length = 1 := by simp [hi]
    show _ = (((_ : Nat) + ([x].filter (fun e => decide (e.id = (i : Int)))).length : Nat) : Int)
    rw [this]; rfl
  · rw [if_neg c, cntL_getD hd]
    have : ([x].filter (fun e => decide (e.id = (d : Int)))).length = 0 := by
      have : ¬ x.id = (d : Int) := fun e => c ⟨by omega, by omega⟩
      simp [this]
    show _ = (((_ : Nat) + ([x].filter (fun e => decide (e.id = (d : Int)))).length : Nat) : Int)
    rw [this]; rfl
theorem backI_has {α : Type} {xs : List α} {x : α} (h : x ∈ xs) : ∃ p ∈ backI xs, p.2 = x := by
  obtain ⟨i, hi⟩ := List.mem_iff_getElem?.1 h
  refine ⟨((i : Int), x), ?_, rfl⟩
  simp only [backI, List.mem_reverse, List.mem_map]
  exact ⟨(x, i), List.mem_zipIdx_iff_getElem?.2 (by simpa using hi), rfl⟩
theorem dist_fold {d : Nat} (hd : d < v) {c : Int} : ∀ (l : List (Int × Evt)) (A : List Int), A.length = v → (∀ p ∈ l, p.2.id = (d : Int) → p.2.tick = c) →
    ((∃ p ∈ l, p.2.id = (d : Int)) → (l.foldl (distS v) A).getD d 0 = W64 (c - 1)) ∧ ((¬ ∃ p ∈ l, p.2.id = (d : Int)) → (l.foldl (distS v) A).getD d 0 = A.getD d 0)
  | [], A, _, _ => ⟨fun ⟨p, hp, _⟩ => absurd hp (by simp), fun _ => rfl⟩
  | p :: l, A, hA, hl => by
    have hA' : (distS v A p).length = v := by unfold distS; split <;> simp [hA]
    obtain ⟨i1, i2⟩ := dist_fold hd l (distS v A p) hA' (fun q hq => hl q (.tail _ hq))
    have hp : (p.2.id = (d : Int) → (distS v A p).getD d 0 = W64 (c - 1)) ∧ (¬ p.2.id = (d : Int) → (distS v A p).getD d 0 = A.getD d 0) := by
      unfold distS
      refine ⟨fun e => ?_, fun e => ?_⟩
      · rw [if_pos (by unfold wi; omega), getD_set, if_pos ⟨by omega, by omega⟩, hl p (.head _) e]
      · split
        · rename_i hw
          rw [getD_set, if_neg (fun cc => by unfold wi at hw; omega)]
        · rfl
    rw [List.foldl_cons]
    by_cases c1 : ∃ q ∈ l, q.2.id = (d : Int)
    · refine ⟨fun _ => i1 c1, fun hn => absurd ?_ hn⟩
      obtain ⟨q, hq, e⟩ := c1; exact ⟨q, .tail _ hq, e⟩
    · rw [i2 c1]
      refine ⟨fun ⟨q, hq, e⟩ => ?_, fun hn => hp.2 (fun e => hn ⟨p, .head _, e⟩)⟩
      rcases List.mem_cons.1 hq with rfl | hq
      · exact hp.1 e
      · exact absurd ⟨q, hq, e⟩ c1
theorem bef_fold {ds : List Int} {d : Nat} : ∀ (l : List (Int × Edg)) (A : List Int), d < A.length →
    ((l.foldl (befS ds) A).getD d 0 = A.getD d 0 ∧ ∀ p ∈ l, befOk ds p.2 → p.2.dst.toNat ≠ d) ∨ ∃ p ∈ l, befOk ds p.2 ∧ p.2.dst.toNat = d ∧ (l.foldl (befS ds) A).getD d 0 = p.2.src
  | [], A, _ => .inl ⟨rfl, fun p hp => by cases hp⟩
  | p :: l, A, hA => by
    have hA' : (befS ds A p).length = A.length := by unfold befS; split <;> simp
    rw [List.foldl_cons]
    rcases bef_fold (ds := ds) (d := d) l (befS ds A p) (by omega) with ⟨h1, h2⟩ | ⟨q, hq, h1⟩
    · by_cases c : befOk ds p.2 ∧ p.2.dst.toNat = d
      · right
        refine ⟨p, .head _, c.1, c.2, ?_⟩
        rw [h1]; unfold befS
        rw [if_pos c.1, getD_set, if_pos ⟨c.2, by omega⟩]
      · left
        refine ⟨?_, fun q hq hb hd => ?_⟩
        · rw [h1]; unfold befS
          split
          · rename_i hb
            rw [getD_set, if_neg (fun cc => c ⟨hb, cc.1⟩)]
          · rfl
        · rcases List.mem_cons.1 hq with rfl | hq
          · exact c ⟨hb, hd⟩
          · exact h2 q hq hb hd
    · exact .inr ⟨q, .tail _ hq, h1⟩
noncomputable def befL (g : List Edg) (s v : Nat) : List Int := befF v (dL g s v) (backI g)
namespace GOK
variable (h : GOK g s v)
include h
theorem out_mem {x : Evt} (hx : x ∈ outP g s v) : ∃ d : Nat, d < v ∧ x = ⟨dst g s d + 1, (d : Int)⟩ ∧ 0 ≤ dst g s d := by
  unfold outP outF at hx
  obtain ⟨t, ht, hx⟩ := List.mem_flatMap.1 hx
  obtain ⟨d, hd, rfl⟩ := List.mem_map.1 hx
  obtain ⟨h1, h2⟩ := List.mem_filter.1 hd
  unfold spF at h2
  rw [decide_eq_true_eq] at h2
  exact ⟨d, List.mem_range.1 h1, by rw [h2.2], h2.1⟩
theorem out_cnt {i : Nat} (hi : i < v) : ((outP g s v).filter (fun e => decide (e.id = (i : Int)))).length = if 0 ≤ dst g s i then 1 else 0 := by
  unfold outP
  rw [outF_cnt _ hi]
  by_cases c : 0 ≤ dst g s i
  · have hb := h.bound c
    rw [if_pos c, filt_one (a := (dst g s i + 1).toNat) (by omega) (fun t ht => by unfold spF; rw [decide_eq_true_eq]; omega)]; rfl
  · rw [if_neg c, filt_none (fun t ht => by unfold spF; rw [decide_eq_true_eq]; omega)]; rfl
theorem out_has {i : Nat} (h0 : 0 ≤ dst g s i) : ∃ x ∈ outP g s v, x.id = (i : Int) := by
  have h1 := h.out_cnt (h.lt h0)
  rw [if_pos h0] at h1
  obtain ⟨x, hx⟩ := List.exists_mem_of_length_pos (l := (outP g s v).filter (fun e => decide (e.id = (i : Int)))) (by omega)
  obtain ⟨h2, h3⟩ := List.mem_filter.1 hx
  exact ⟨x, h2, by simpa using h3⟩
theorem out_l : (outP g s v).length ≤ 25600 := by
  have h1 := h.hv
  have := outF_len (spF g s) v (16 * v)
  have h2 : 16 * v * v ≤ 16 * 40 * 40 := Nat.mul_le_mul (Nat.mul_le_mul_left 16 h1.2) h1.2
  unfold outP; omega
theorem dist_ok : distP (v : Int) (outP g s v) = .ok (dL g s v) := by
  have h1 := h.hv
  unfold distP
  rw [if_pos (by unfold wi; omega), Int.toNat_natCast]
  congr 1
  unfold dL
  refine list_eq (distF_len _ _) (fun d hd => ?_)
  unfold distF
  obtain ⟨i1, i2⟩ := dist_fold (v := v) hd (c := dst g s d + 1) (backI (outP g s v)) (List.replicate v (-1)) (by simp) (fun p hp e => by
    obtain ⟨d', hd', e2, _⟩ := h.out_mem (backI_mem hp)
    rw [e2] at e ⊢
    have : d' = d := by dsimp only at e; omega
    rw [this])
  by_cases c : 0 ≤ dst g s d
  · have hb := h.bound c
    obtain ⟨x, hx, e⟩ := h.out_has c
    obtain ⟨p, hp, rfl⟩ := backI_has hx
    rw [i1 ⟨p, hp, e⟩, W64_id (by omega)]; omega
  · have hge := dst_ge (g := g) (s := s) d
    rw [i2 (fun ⟨p, hp, e⟩ => by
      obtain ⟨d', hd', e2, h0⟩ := h.out_mem (backI_mem hp)
      rw [e2] at e
      have : d' = d := by dsimp only at e; omega
      subst this; exact c h0)]
    have : (List.replicate v (-1 : Int)).getD d 0 = -1 := by simp [List.getD, hd]
    rw [this]; omega
theorem graph_0 : graphE (v : Int) g = 0 := by
  have h1 := h.hv; have h2 := h.hl
  unfold graphE
  rw [if_pos (by unfold wi; omega), if_neg (by omega)]
  refine firstE_all (fun e he => ?_)
  have := h.he e he
  unfold edgeE
  rw [if_neg (by unfold wi; omega), if_pos (by unfold wi; omega)]
theorem paths_ok : pathsP (v : Int) g (s : Int) = .ok (pathN g s v) := by
  have h1 := h.hv; have h2 := h.hs
  unfold pathsP
  rw [if_neg (by rw [h.graph_0]; decide), if_pos (by unfold wi; omega), Int.toNat_natCast]
  rfl
theorem bef_ok : befP (v : Int) g (dL g s v) = .ok (befL g s v) := by
  unfold befP
  rw [if_neg (by rw [h.graph_0]; decide), if_pos (by rw [dL_len]), Int.toNat_natCast]
  rfl
theorem bef_at {d : Nat} (hd : d < v) : (dst g s d ≤ 0 → (befL g s v).getD d 0 = -1) ∧ (1 ≤ dst g s d → ∃ e ∈ g, (befL g s v).getD d 0 = e.src ∧ e.dst = (d : Int) ∧ 0 ≤ dst g s e.src.toNat ∧ dst g s e.src.toNat + e.len = dst g s d) := by
  have hge := dst_ge (g := g) (s := s)
  have hbe : ∀ e ∈ g, befOk (dL g s v) e ↔ 0 ≤ dst g s e.src.toNat ∧ dst g s e.src.toNat < dst g s e.dst.toNat ∧ dst g s e.dst.toNat - dst g s e.src.toNat = e.len := fun e he => by
    have hb := h.he e he
    unfold befOk
    rw [dL_getD (by omega), dL_getD (by omega)]
    constructor
    · rintro ⟨a1, a2, a3⟩
      have := h.bound (d := e.dst.toNat) (by omega)
      have hv := h.hv
      rw [show IntKind.i64.wrap (dst g s e.dst.toNat - dst g s e.src.toNat) = dst g s e.dst.toNat - dst g s e.src.toNat from W64_id (by omega)] at a3
      exact ⟨a1, a2, a3⟩
    · rintro ⟨a1, a2, a3⟩
      exact ⟨a1, a2, by rw [show IntKind.i64.wrap (dst g s e.dst.toNat - dst g s e.src.toNat) = dst g s e.dst.toNat - dst g s e.src.toNat from W64_id (by omega)]; exact a3⟩
  unfold befL befF
  have h0 : (List.replicate v (-1 : Int)).getD d 0 = -1 := by simp [List.getD, hd]
  rcases bef_fold (ds := dL g s v) (d := d) (backI g) (List.replicate v (-1)) (by simpa using hd) with ⟨h1, h2⟩ | ⟨p, hp, h1, h2, h3⟩
  · refine ⟨fun _ => by rw [h1, h0], fun hpos => ?_⟩
    exfalso
    rcases h.p2 (d := d) (by omega) with ⟨_, h3⟩ | ⟨e, he, h3, h4, h5⟩
    · omega
    · obtain ⟨p, hp, rfl⟩ := backI_has he
      have hb := h.he p.2 he
      have ed : p.2.dst.toNat = d := by omega
      exact h2 p hp ((hbe p.2 he).2 (by rw [ed]; omega)) ed
  · have he := backI_mem hp
    have hb := h.he p.2 he
    have := (hbe p.2 he).1 h1
    rw [h2] at this
    refine ⟨fun hle => by omega, fun _ => ⟨p.2, he, h3, by omega, this.1, by omega⟩⟩
end GOK
end
abbrev uW (x : Int) : Int := IntKind.u64.wrap x
theorem uW_0 (x : Int) : 0 ≤ uW x := by unfold uW; rw [IntKind.wrap_u64]; omega
def mkE (v : Nat) (x : Edg) : Edg := ⟨uW x.src % (v : Int), uW x.dst % (v : Int), 1 + uW x.len % 16⟩
def mkG (v : Nat) (es : List Edg) : List Edg := es.map (mkE v)
theorem mkG_ok {v s : Nat} {es : List Edg} (hv : 1 ≤ v ∧ v ≤ 40) (hs : s < v) (hl : es.length ≤ 120) : GOK (mkG v es) s v where
  hv := hv
  hs := hs
  hl := by unfold mkG; simpa using hl
  he := fun e he => by
    obtain ⟨x, _, rfl⟩ := List.mem_map.1 he
    have h1 := uW_0 x.len
    unfold mkE
    exact ⟨Int.emod_nonneg _ (by omega), Int.emod_lt_of_pos _ (by omega), Int.emod_nonneg _ (by omega), Int.emod_lt_of_pos _ (by omega), by dsimp only; omega, by dsimp only; omega⟩
noncomputable def edgT (g : List Edg) (s : Nat) (b i : Nat) (x : Edg) : Bool := decide (x.src = (b : Int) ∧ x.dst = (i : Int) ∧ 0 ≤ dst g s b ∧ dst g s b + x.len = dst g s i)
theorem any_step {α : Type} {p : α → Bool} {xs : List α} {k : Nat} {x : α} (h : xs[k]? = some x) : (xs.take (k + 1)).any p = ((xs.take k).any p || p x) := by
  rw [List.take_add_one, h, List.any_append]; simp
theorem bfW_step {g : List Edg} {s v r k : Nat} {e : Edg} (h : g[k]? = some e) : bfW g s v r (k + 1) = relS (bfW g s v r k) e := by
  unfold bfW; rw [List.take_add_one, h, List.foldl_append]; rfl
theorem bfW_end {g : List Edg} {s v r k : Nat} (h : g.length ≤ k) : bfW g s v r k = bfR g s v (r + 1) := by
  unfold bfW; rw [List.take_of_length_le h]; rfl
end Go.Proofs.Ytilcdghliigngaa
namespace Go.Proofs.Ytilcdghliigngaa
open Go.RowKit Go.Proofs.YtilcdghliigngaaGl Go.Proofs.YtilcdghliigngaaPm
set_option linter.unusedVariables false
set_option linter.unusedSimpArgs false
theorem a_remU {i j : Int} (hi : 0 ≤ i) (hj : 0 < j) : arV .rem .u64 i j = some (i % j) := by simp only [arV, if_neg (show j ≠ 0 by omega), Int.tmod_eq_emod_of_nonneg hi]
def fillL (v j : Nat) : List Int := List.replicate j (-1) ++ List.replicate (v - j) 0
theorem fillL_0 (v : Nat) : fillL v 0 = List.replicate v 0 := by simp [fillL]
theorem fillL_len {v j : Nat} (h : j ≤ v) : (fillL v j).length = v := by simp [fillL]; omega
theorem fillL_v (v : Nat) : fillL v v = List.replicate v (-1) := by simp [fillL]
theorem fillL_step {v j : Nat} (h : j < v) : fillL v (j + 1) = (fillL v j).set j (-1) := by
  obtain ⟨m, hm⟩ : ∃ m, v - j = m + 1 := ⟨v - j - 1, by omega⟩
  have h2 : v - (j + 1) = m := by omega
  unfold fillL
  rw [h2, hm, List.set_append_right _ _ (by simp), List.length_replicate, Nat.sub_self, List.replicate_succ' (n := j), List.append_assoc]; rfl
theorem inv_b {g : List Edg} {s v r k d : Nat} (h : GOK g s v) (hr : r ≤ v) (hd : d < v) : -1 ≤ (bfW g s v r k).getD d 0 ∧ (bfW g s v r k).getD d 0 ≤ 100000 := by
  have h8 := h.hl; have hv := h.hv
  have h7 : r * g.length ≤ 40 * 120 := Nat.mul_le_mul (by omega) h8
  have h6 : (g.take k).length ≤ 120 := by rw [List.length_take]; omega
  rcases (h.inv_W r k).all d hd with h5 | ⟨t, h5, _, h4⟩ <;> omega
theorem dist_q {n : Int} {ea : Option Addr} {ec : Nat} {evs : List Evt} {w : World} {D : List Int} (hD : distP n evs = .ok D) (hV : RoL w ea eEvt evs) (hl : evs.length ≤ 1000000) :
    Calls Try.prog 37 [.int .i64 n, .slice ea evs.length ec].toArray w fun e w' => ∃ p : Option Addr × Nat, e = .returned (.tuple #[.slice p.1 D.length p.2, .int .i64 0]) ∧ Sat w w' [row p.1 p.2 3 1 D.length (D.flatMap eInt)] := retL_ok (dist_c n ea ec evs w hV hl) hD
theorem before_q {n : Int} {ea xa : Option Addr} {ec xc : Nat} {es : List Edg} {ds : List Int} {w : World} {D : List Int} (hD : befP n es ds = .ok D) (hE : RoL w ea eEdge es) (hX : RoL w xa eInt ds) :
    Calls Try.prog 38 [.int .i64 n, .slice ea es.length ec, .slice xa ds.length xc].toArray w fun e w' => ∃ p : Option Addr × Nat, e = .returned (.tuple #[.slice p.1 D.length p.2, .int .i64 0]) ∧ Sat w w' [row p.1 p.2 3 1 D.length (D.flatMap eInt)] := retL_ok (before_c n ea ec es xa xc ds w hE hX) hD
theorem befL_len (g : List Edg) (s v : Nat) : (befL g s v).length = v := befF_len _ _ _
noncomputable def cnt1 (g : List Edg) (s i : Nat) : Int := if 0 ≤ dst g s i then 1 else 0
theorem cnt_at {g : List Edg} {s v i : Nat} (h : GOK g s v) (hi : i < v) : (cntL v (outP g s v))[i]? = some (cnt1 g s i) := by
  rw [getD_some (by rw [cntL_len]; exact hi), cntL_getD hi, h.out_cnt hi]; unfold cnt1; split <;> rfl
theorem cnt1_eq {g : List Edg} {s i : Nat} : cnt1 g s i = min 1 (dst g s i + 1) := by
  have := dst_ge (g := g) (s := s) i
  unfold cnt1; split <;> omega
theorem shortest_c (nb sb : Int) (ea0 : Option Addr) (ec0 : Nat) (es : List Edg) (w : World) (hE : RoL w ea0 eEdge es) (hnb : 0 ≤ nb ∧ nb ≤ 255) (hsb : 0 ≤ sb ∧ sb ≤ 255) : Calls Try.prog 6 [.int .u8 nb, .slice ea0 es.length ec0, .int .u8 sb].toArray w fun e w' => e = .returned (.bool true) ∧ Sat w w' [] := by
  refine fstart Try.func6 rfl rfl (Sat.nil w) ?_
  refine Cd.seq ?_
  refine Cd.region ?_
  refine Ops.q (q_asg rfl) ?_
  refine Ops.to rfl ?_
  refine Cd.seq ?_
  refine Cd.seq ?_
  refine Cd.region ?_
  refine Ops.q (q_mv rfl) ?_
  refine Ops.q (q_len esz_80 rfl) ?_
  by_cases h1 : 120 < (es.length : Int)
  · refine Ops.q (q_cmp rfl rfl (c_gt h1)) ?_
    refine Ops.to rfl ?_
    refine Cd.cond_t rfl ?_
    refine Cd.seq ?_
    refine Cd.region ?_
    refine Ops.cp en_13 rfl (fun w hs => works_c w) ?_
    refine Ops.q (q_asg rfl) ?_
    refine Ops.to rfl ?_
    refine Cd.rt (fn := Try.f6) [.bool true] (by with_reducible repeat (first | exact rq_here | apply rq_then | apply rq_block)) rfl ⟨rfl, trivial⟩ ?_
    intro w' hs'
    exact ⟨rfl, hs'.none⟩
  · refine Ops.q (q_cmp rfl rfl (c_ngt (by omega))) ?_
    refine Ops.to rfl ?_
    refine Cd.cond_f rfl ?_
    refine Cd.skipTo rfl ?_
    refine Cd.seq ?_
    refine Cd.region ?_
    refine Ops.q (q_mv rfl) ?_
    refine Ops.q (q_conv iK_5 iK_3 rfl (IntWalk.i64_in _ (by omega))) ?_
    refine Ops.q (q_ar rfl rfl (a_rem (by omega) (by omega))) ?_
    refine Ops.q (q_ar rfl rfl (a_add (by omega))) ?_
    refine Ops.q (q_asg rfl) ?_
    refine Ops.to rfl ?_
    refine Cd.seq ?_
    refine Cd.region ?_
    obtain ⟨v, hv⟩ : ∃ v : Nat, 1 + nb % 40 = (v : Int) := ⟨(1 + nb % 40).toNat, by omega⟩
    rw [hv]
    have hv40 : 1 ≤ v ∧ v ≤ 40 := by omega
    refine Ops.q (q_asg rfl) ?_
    refine Ops.to rfl ?_
    refine Cd.seq ?_
    refine Cd.seq ?_
    refine Cd.region ?_
    refine Ops.q (q_mv rfl) ?_
    refine Ops.q (q_len esz_80 rfl) ?_
    refine Ops.q (q_mv rfl) ?_
    refine Ops.to rfl ?_
    refine Cd.block ?_
    refine Cd.lp (σ := Nat × Option Addr × Nat) (fun s => s.1 ≤ es.length) (fun s => [(2, .int .u8 sb), (7, .int .i64 (v : Int)), (40, .slice ea0 es.length ec0), (41, .int .i64 (es.length : Int)), (8, .slice s.2.1 s.1 s.2.2), (42, .int .i64 (s.1 : Int))]) (fun s => [row s.2.1 s.2.2 82 3 s.1 (((es.take s.1).map (mkE v)).flatMap eEdge)]) (fun s => es.length - s.1) (0, none, 0) (Nat.zero_le _) ⟨rfl, rfl, rfl, rfl, rfl, rfl, trivial⟩ (fun _ hs => hs.nilRow 82 3) ?_
    rintro ⟨k, ga, gc⟩ hI
    dsimp only at hI
    change Cd _ _ _ _ _ _ _ [(2, .int .u8 sb), (7, .int .i64 (v : Int)), (40, .slice ea0 es.length ec0), (41, .int .i64 (es.length : Int)), (8, .slice ga k gc), (42, .int .i64 (k : Int))] ([row ga gc 82 3 k (((es.take k).map (mkE v)).flatMap eEdge)])
    refine Cd.seq ?_
    refine Cd.region ?_
    by_cases hk : (k : Int) < (es.length : Int)
    · refine Ops.q (q_cmp rfl rfl (c_lt hk)) ?_
      obtain ⟨x2, hx3⟩ : ∃ x, es[k]? = some x := ⟨_, List.getElem?_eq_getElem (by omega)⟩
      obtain ⟨ab4, ao5, rfl⟩ := RoL.pos hE eEdge_len hx3
      have hmsrc := Int.emod_nonneg (uW x2.src) (show (v : Int) ≠ 0 by omega)
      have hnsrc := Int.emod_lt_of_pos (uW x2.src) (show (0 : Int) < v by omega)
      have hmdst := Int.emod_nonneg (uW x2.dst) (show (v : Int) ≠ 0 by omega)
      have hndst := Int.emod_lt_of_pos (uW x2.dst) (show (0 : Int) < v by omega)
      have hu3 := uW_0 x2.len
      refine Ops.to rfl ?_
      refine Cd.seq ?_
      refine Cd.cond_t rfl ?_
      refine Cd.skipTo rfl ?_
      refine Cd.seq ?_
      refine Cd.block ?_
      refine Cd.seq ?_
      refine Cd.region ?_
      refine Ops.q (q_ix (k := k) esz_80 rfl rfl (by omega)) ?_
      refine Ops.q (q_ldRN [.int .i64 x2.src, .int .i64 x2.dst, .int .i64 x2.len] isA_82 sz_82 rfl (fun j u hu => hE.at eEdge_len hx3 hu)) ?_
      refine Ops.alc [.int .i64 0, .int .i64 0, .int .i64 0] zc_82 ?_
      intro b6
      refine Ops.stB [.int .i64 x2.src, .int .i64 x2.dst, .int .i64 x2.len] [.int .i64 x2.src, .int .i64 x2.dst, .int .i64 x2.len] sz_82 rfl rfl rfl (one rfl) .here rfl rfl ?_
      refine Ops.to rfl ?_
      refine Cd.draw rfl (by kernel_rfl) (.cons .here .nil) ?_
      intro F7 St8 hP9 hF10 hR11
      refine Dr.q (i := 0) hP9 rfl (by kernel_rfl) (q_mv rfl) ?_
      refine Dr.q (i := 1) hP9 rfl (by kernel_rfl) (q_fa fo_82_0 rfl) ?_
      refine Dr.q (i := 2) hP9 rfl (by kernel_rfl) (q_ldB isA_3 rfl .here rfl) ?_
      refine Dr.q (i := 3) hP9 rfl (by kernel_rfl) (q_conv iK_3 iK_83 rfl (rfl)) ?_
      refine Dr.q (i := 4) hP9 rfl (by kernel_rfl) (q_mv rfl) ?_
      refine Dr.q (i := 5) hP9 rfl (by kernel_rfl) (q_conv iK_3 iK_83 rfl (u64_in (by omega))) ?_
      refine Dr.q (i := 6) hP9 rfl (by kernel_rfl) (q_ar (v := uW x2.src % (v : Int)) rfl rfl (a_remU (uW_0 _) (by omega))) ?_
      refine Dr.q (i := 7) hP9 rfl (by kernel_rfl) (q_conv iK_83 iK_3 rfl (IntWalk.i64_in _ (by omega))) ?_
      refine Dr.q (i := 8) hP9 rfl (by kernel_rfl) (q_fa fo_82_1 rfl) ?_
      refine Dr.q (i := 9) hP9 rfl (by kernel_rfl) (q_ldB isA_3 rfl .here rfl) ?_
      refine Dr.q (i := 10) hP9 rfl (by kernel_rfl) (q_conv iK_3 iK_83 rfl (rfl)) ?_
      refine Dr.q (i := 11) hP9 rfl (by kernel_rfl) (q_mv rfl) ?_
      refine Dr.q (i := 12) hP9 rfl (by kernel_rfl) (q_conv iK_3 iK_83 rfl (u64_in (by omega))) ?_
      refine Dr.q (i := 13) hP9 rfl (by kernel_rfl) (q_ar (v := uW x2.dst % (v : Int)) rfl rfl (a_remU (uW_0 _) (by omega))) ?_
      refine Dr.q (i := 14) hP9 rfl (by kernel_rfl) (q_conv iK_83 iK_3 rfl (IntWalk.i64_in _ (by omega))) ?_
      refine Dr.q (i := 15) hP9 rfl (by kernel_rfl) (q_fa fo_82_2 rfl) ?_
      refine Dr.q (i := 16) hP9 rfl (by kernel_rfl) (q_ldB isA_3 rfl .here rfl) ?_
      refine Dr.q (i := 17) hP9 rfl (by kernel_rfl) (q_conv iK_3 iK_83 rfl (rfl)) ?_
      refine Dr.q (i := 18) hP9 rfl (by kernel_rfl) (q_ar (v := uW x2.len % 16) rfl rfl (a_remU (uW_0 _) (by omega))) ?_
      refine Dr.q (i := 19) hP9 rfl (by kernel_rfl) (q_conv iK_83 iK_3 rfl (IntWalk.i64_in _ (by omega))) ?_
      refine Dr.q (i := 20) hP9 rfl (by kernel_rfl) (q_ar rfl rfl (a_add (by omega))) ?_
      refine Dr.q (i := 21) hP9 rfl (by kernel_rfl) (q_bld [.int .i64 (uW x2.src % (v : Int)), .int .i64 (uW x2.dst % (v : Int)), .int .i64 (1 + (uW x2.len % 16))] pls_82 zc_82 rfl rfl) ?_
      refine Dr.e (i := 22) rfl (by kernel_rfl) ?_
      refine Ops.lit [.int .i64 (uW x2.src % (v : Int)), .int .i64 (uW x2.dst % (v : Int)), .int .i64 (1 + (uW x2.len % 16))] el_80 zsb_82 rfl rfl ⟨by decide, by decide⟩ rfl ?_
      intro b12
      refine Dr.back (fun _ hs => hF10 (.there .here) hs) ?_
      refine Dr.e (i := 23) rfl (by kernel_rfl) ?_
      refine Ops.app (news := [.int .i64 (uW x2.src % (v : Int)), .int .i64 (uW x2.dst % (v : Int)), .int .i64 (1 + (uW x2.len % 16))]) el_80 zsb_82 (by decide) rfl rfl (fun _ hs => hs.ownRo .here) (fun _ hs => (hs.pull .here).drop) (fun _ _ => (.there .here)) rfl (one rfl) (by omega) (by omega) ?_
      intro a13 c14
      refine Dr.back (fun _ hs => hF10 .here hs) ?_
      refine Dr.tail 24 (by kernel_rfl) ?_
      refine Ops.sat ?_ (fun _ hs => hR11 .here hs)
      refine Ops.q (q_asg rfl) ?_
      refine Ops.to rfl ?_
      refine Cd.region ?_
      refine Ops.q (q_ar rfl rfl (a_inc (by omega))) ?_
      refine Ops.q (q_mv rfl) ?_
      refine Ops.rnd ((k + 1, a13, c14)) rfl (by dsimp only; exact (by omega)) (by dsimp only; omega) ⟨rfl, rfl, rfl, rfl, rfl, rfl, trivial⟩ (fun _ hs => by have h1 := ((hs.pull (.there .here)).pull (.there .here)).drop; (try dsimp only); rw [List.take_add_one, hx3, List.map_append, fm_app]; exact h1) 
    · refine Ops.q (q_cmp rfl rfl (c_nlt (by omega))) ?_
      have hk9 : k = es.length := by omega
      rw [hk9, List.take_length]
      obtain ⟨g, hgE⟩ : ∃ g, g = mkG v es := ⟨_, rfl⟩
      rw [show List.map (mkE v) es = g from hgE.symm, show es.length = g.length from by rw [hgE]; unfold mkG; simp]
      have hgl : g.length = es.length := by rw [hgE]; unfold mkG; simp
      refine Ops.to rfl ?_
      refine Cd.seq ?_
      refine Cd.cond_f rfl ?_
      refine Cd.exitTo rfl ?_
      refine Cd.seq ?_
      refine Cd.region ?_
      obtain ⟨so, hs0⟩ : ∃ so : Nat, sb % (v : Int) = (so : Int) := ⟨(sb % (v : Int)).toNat, by have := Int.emod_nonneg sb (show (v : Int) ≠ 0 by omega); omega⟩
      have hsv : so < v := by have := Int.emod_lt_of_pos sb (show (0 : Int) < v by omega); omega
      have hG : GOK g so v := by rw [hgE]; exact mkG_ok hv40 hsv (by omega)
      have hol := hG.out_l
      refine Ops.q (q_mv rfl) ?_
      refine Ops.q (q_conv iK_5 iK_3 rfl (IntWalk.i64_in _ (by omega))) ?_
      refine Ops.q (q_mv rfl) ?_
      refine Ops.q (q_ar (v := (so : Int)) rfl rfl ((by rw [a_rem (by omega) (by omega), hs0]))) ?_
      refine Ops.q (q_asg rfl) ?_
      refine Ops.to rfl ?_
      refine Cd.seq ?_
      refine Cd.region ?_
      refine Ops.q (q_mv rfl) ?_
      refine Ops.mks (m := v) el_26 zsb_3 rfl rfl (by omega) (by omega) ?_
      intro wb
      refine Ops.q (q_asg rfl) ?_
      refine Ops.to rfl ?_
      refine Cd.seq ?_
      refine Cd.seq ?_
      refine Cd.region ?_
      rw [rep_int, ← fillL_0]
      refine Ops.q (q_mv rfl) ?_
      refine Ops.q (q_len esz_26 rfl) ?_
      refine Ops.q (q_mv rfl) ?_
      refine Ops.to rfl ?_
      refine Cd.block ?_
      refine Cd.lp (σ := Nat) (fun j => j ≤ v) (fun j => [(7, .int .i64 (v : Int)), (8, .slice ga g.length gc), (11, .int .i64 (so : Int)), (12, .slice (some ⟨wb, 0, none⟩) v v), (77, .slice (some ⟨wb, 0, none⟩) v v), (78, .int .i64 (v : Int)), (79, .int .i64 (j : Int))]) (fun j => [row ga gc 82 3 g.length (g.flatMap eEdge), row (some ⟨wb, 0, none⟩) v 3 1 v ((fillL v j).flatMap eInt)]) (fun j => v - j) 0 (Nat.zero_le _) ⟨rfl, rfl, rfl, rfl, rfl, rfl, rfl, trivial⟩ (fun _ hs => ((hs.pull .here).pull (.there .here))) ?_
      intro j hI
      refine Cd.seq ?_
      refine Cd.region ?_
      by_cases hj : (j : Int) < (v : Int)
      · refine Ops.q (q_cmp rfl rfl (c_lt hj)) ?_
        have hfl := fillL_len (v := v) (j := j) (by omega)
        refine Ops.to rfl ?_
        refine Cd.seq ?_
        refine Cd.cond_t rfl ?_
        refine Cd.skipTo rfl ?_
        refine Cd.seq ?_
        refine Cd.block ?_
        refine Cd.seq ?_
        refine Cd.region ?_
        refine Ops.q (q_mv rfl) ?_
        refine Ops.q (q_asg rfl) ?_
        refine Ops.to rfl ?_
        refine Cd.region ?_
        refine Ops.q (q_mv rfl) ?_
        refine Ops.q (q_mv rfl) ?_
        refine Ops.q (q_ix (k := j) esz_26 rfl rfl (by omega)) ?_
        refine Ops.stO [.int .i64 (-1)] (((fillL v j).set j (-1)).flatMap eInt) sz_3 rfl rfl rfl (one rfl) (.there .here) (by rw [fm_length eInt_len]; simp only [List.length_cons, List.length_nil]; omega) (fm_set eInt_len (fillL v j) j (-1) (by omega)) ?_
        refine Ops.to rfl ?_
        refine Cd.region ?_
        refine Ops.q (q_ar rfl rfl (a_inc (by omega))) ?_
        refine Ops.q (q_mv rfl) ?_
        refine Ops.rnd (j + 1) rfl (by omega) (by omega) ⟨rfl, rfl, rfl, rfl, rfl, rfl, rfl, trivial⟩ (fun _ hs => by have h1 := ((hs.pull (.there .here)).pull (.there .here)); (try dsimp only); rw [fillL_step (by omega)]; exact h1) 
      · refine Ops.q (q_cmp rfl rfl (c_nlt (by omega))) ?_
        rw [show j = v by omega, fillL_v]
        have hrl : (List.replicate v (-1 : Int)).length = v := List.length_replicate ..
        refine Ops.to rfl ?_
        refine Cd.seq ?_
        refine Cd.cond_f rfl ?_
        refine Cd.exitTo rfl ?_
        refine Cd.seq ?_
        refine Cd.region ?_
        refine Ops.q (q_mv rfl) ?_
        refine Ops.q (q_mv rfl) ?_
        refine Ops.q (q_ix (k := so) esz_26 rfl rfl (by omega)) ?_
        refine Ops.stO [.int .i64 0] (((List.replicate v (-1 : Int)).set so 0).flatMap eInt) sz_3 rfl rfl rfl (one rfl) (.there .here) (by rw [fm_length eInt_len]; simp only [List.length_cons, List.length_nil]; omega) (fm_set eInt_len (List.replicate v (-1 : Int)) so 0 (by omega)) ?_
        refine Ops.to rfl ?_
        refine Cd.seq ?_
        refine Cd.seq ?_
        refine Cd.region ?_
        refine Ops.q (q_mv rfl) ?_
        refine Ops.q (q_mv rfl) ?_
        refine Ops.to rfl ?_
        refine Cd.block ?_
        refine Cd.lp (σ := Nat) (fun r => r ≤ v) (fun r => [(7, .int .i64 (v : Int)), (8, .slice ga g.length gc), (11, .int .i64 (so : Int)), (12, .slice (some ⟨wb, 0, none⟩) v v), (89, .int .i64 (v : Int)), (90, .int .i64 (r : Int))]) (fun r => [row ga gc 82 3 g.length (g.flatMap eEdge), row (some ⟨wb, 0, none⟩) v 3 1 v ((bfR g so v r).flatMap eInt)]) (fun r => v - r) 0 (Nat.zero_le _) ⟨rfl, rfl, rfl, rfl, rfl, rfl, trivial⟩ (fun _ hs => ((hs.pull (.there .here)).pull (.there .here))) ?_
        intro r hI
        refine Cd.seq ?_
        refine Cd.region ?_
        by_cases hr : (r : Int) < (v : Int)
        · refine Ops.q (q_cmp rfl rfl (c_lt hr)) ?_
          refine Ops.to rfl ?_
          refine Cd.seq ?_
          refine Cd.cond_t rfl ?_
          refine Cd.skipTo rfl ?_
          refine Cd.seq ?_
          refine Cd.block ?_
          refine Cd.seq ?_
          refine Cd.region ?_
          refine Ops.q (q_mv rfl) ?_
          refine Ops.q (q_len esz_80 rfl) ?_
          refine Ops.q (q_mv rfl) ?_
          refine Ops.to rfl ?_
          refine Cd.block ?_
          refine Cd.lp (σ := Nat) (fun k => k ≤ g.length) (fun k => [(7, .int .i64 (v : Int)), (8, .slice ga g.length gc), (11, .int .i64 (so : Int)), (12, .slice (some ⟨wb, 0, none⟩) v v), (89, .int .i64 (v : Int)), (90, .int .i64 (r : Int)), (92, .slice ga g.length gc), (93, .int .i64 (g.length : Int)), (94, .int .i64 (k : Int))]) (fun k => [row ga gc 82 3 g.length (g.flatMap eEdge), row (some ⟨wb, 0, none⟩) v 3 1 v ((bfW g so v r k).flatMap eInt)]) (fun k => g.length - k) 0 (Nat.zero_le _) ⟨rfl, rfl, rfl, rfl, rfl, rfl, rfl, rfl, rfl, trivial⟩ (fun _ hs => ((hs.pull (.there .here)).pull (.there .here))) ?_
          intro k hI
          refine Cd.seq ?_
          refine Cd.region ?_
          by_cases hk : (k : Int) < (g.length : Int)
          · refine Ops.q (q_cmp rfl rfl (c_lt hk)) ?_
            obtain ⟨⟨xa, xb, el⟩, hx⟩ : ∃ x, g[k]? = some x := ⟨_, List.getElem?_eq_getElem (by omega)⟩
            have hxm := List.mem_iff_getElem?.2 ⟨k, hx⟩
            have hxb := hG.he _ hxm
            dsimp only at hxb
            obtain ⟨ea, rfl⟩ : ∃ a : Nat, xa = (a : Int) := ⟨xa.toNat, by omega⟩
            obtain ⟨eb, rfl⟩ : ∃ a : Nat, xb = (a : Int) := ⟨xb.toNat, by omega⟩
            refine Ops.rowpos .here (by omega) ?_
            rintro gb6 rfl
            have hI9 := hG.inv_W r k
            have hWl := hI9.hlen
            have hWa := inv_b (k := k) hG (show r ≤ v by omega) (show ea < v by omega)
            have hWc := inv_b (k := k) hG (show r ≤ v by omega) (show eb < v by omega)
            refine Ops.to rfl ?_
            refine Cd.seq ?_
            refine Cd.cond_t rfl ?_
            refine Cd.skipTo rfl ?_
            refine Cd.seq ?_
            refine Cd.block ?_
            refine Cd.seq ?_
            refine Cd.region ?_
            refine Ops.q (q_ix (k := k) esz_80 rfl rfl (by omega)) ?_
            refine Ops.q (q_ldON [.int .i64 (ea : Int), .int .i64 (eb : Int), .int .i64 el] isA_82 sz_82 rfl .here (fm_atN eEdge_len hx)) ?_
            refine Ops.alc [.int .i64 0, .int .i64 0, .int .i64 0] zc_82 ?_
            intro b15
            refine Ops.stB [.int .i64 (ea : Int), .int .i64 (eb : Int), .int .i64 el] [.int .i64 (ea : Int), .int .i64 (eb : Int), .int .i64 el] sz_82 rfl rfl rfl (one rfl) .here rfl rfl ?_
            refine Ops.to rfl ?_
            refine Cd.seq ?_
            refine Cd.draw rfl (by kernel_rfl) (.cons .here (.cons (.there .here) .nil)) ?_
            intro F16 St17 hP18 hF19 hR20
            refine Dr.q (i := 0) hP18 rfl (by kernel_rfl) (q_mv rfl) ?_
            refine Dr.q (i := 1) hP18 rfl (by kernel_rfl) (q_fa fo_82_0 rfl) ?_
            refine Dr.q (i := 2) hP18 rfl (by kernel_rfl) (q_ldB isA_3 rfl .here rfl) ?_
            refine Dr.q (i := 3) hP18 rfl (by kernel_rfl) (q_ix (k := ea) esz_26 rfl rfl (by omega)) ?_
            refine Dr.q (i := 4) hP18 rfl (by kernel_rfl) (q_ldO isA_3 rfl (.there .here) (fm_at0 eInt_len (getD_some (by omega)) rfl)) ?_
            refine Dr.q (i := 5) hP18 rfl (by kernel_rfl) (q_fa fo_82_2 rfl) ?_
            refine Dr.q (i := 6) hP18 rfl (by kernel_rfl) (q_ldB isA_3 rfl .here rfl) ?_
            refine Dr.q (i := 7) hP18 rfl (by kernel_rfl) (q_ar rfl rfl (a_add (by omega))) ?_
            refine Dr.tail 8 (by kernel_rfl) ?_
            refine Ops.sat ?_ (fun _ hs => hR20 .here hs)
            refine Ops.q (q_asg rfl) ?_
            refine Ops.to rfl ?_
            refine Cd.seq ?_
            refine Cd.region ?_
            refine Ops.q (q_mv rfl) ?_
            refine Ops.q (q_fa fo_82_0 rfl) ?_
            refine Ops.q (q_ldB isA_3 rfl .here rfl) ?_
            refine Ops.q (q_ix (k := ea) esz_26 rfl rfl (by omega)) ?_
            refine Ops.q (q_ldO isA_3 rfl (.there .here) (fm_at0 eInt_len (getD_some (by omega)) rfl)) ?_
            by_cases hA : 0 ≤ ((bfW g so v r k).getD ea 0)
            · refine Ops.q (q_cmp rfl rfl (c_ge hA)) ?_
              refine Ops.q (q_mv rfl) ?_
              refine Ops.q (q_mv rfl) ?_
              refine Ops.q (q_fa fo_82_1 rfl) ?_
              refine Ops.q (q_ldB isA_3 rfl .here rfl) ?_
              refine Ops.q (q_ix (k := eb) esz_26 rfl rfl (by omega)) ?_
              refine Ops.q (q_ldO isA_3 rfl (.there .here) (fm_at0 eInt_len (getD_some (by omega)) rfl)) ?_
              by_cases hB : ((bfW g so v r k).getD eb 0) < 0
              · refine Ops.q (q_cmp rfl rfl (c_lt hB)) ?_
                refine Ops.q (q_mv rfl) ?_
                refine Ops.sk ?_
                refine Ops.sk ?_
                refine Ops.sk ?_
                refine Ops.sk ?_
                refine Ops.sk ?_
                refine Ops.sk ?_
                refine Ops.sk ?_
                refine Ops.q (q_pickT rfl rfl) ?_
                refine Ops.q (q_pickT rfl rfl) ?_
                refine Ops.to rfl ?_
                refine Cd.cond_t rfl ?_
                refine Cd.region ?_
                refine Ops.q (q_mv rfl) ?_
                refine Ops.q (q_fa fo_82_1 rfl) ?_
                refine Ops.q (q_ldB isA_3 rfl .here rfl) ?_
                refine Ops.q (q_mv rfl) ?_
                refine Ops.q (q_ix (k := eb) esz_26 rfl rfl (by omega)) ?_
                refine Ops.stO [.int .i64 (((bfW g so v r k).getD ea 0) + el)] (((bfW g so v r k).set eb (((bfW g so v r k).getD ea 0) + el)).flatMap eInt) sz_3 rfl rfl rfl (one rfl) (.there .here) (by rw [fm_length eInt_len]; simp only [List.length_cons, List.length_nil]; omega) (fm_set eInt_len (bfW g so v r k) eb (((bfW g so v r k).getD ea 0) + el) (by omega)) ?_
                refine Ops.to rfl ?_
                refine Cd.region ?_
                refine Ops.q (q_ar rfl rfl (a_inc (by omega))) ?_
                refine Ops.q (q_mv rfl) ?_
                refine Ops.rnd (k + 1) rfl (by omega) (by omega) ⟨rfl, rfl, rfl, rfl, rfl, rfl, rfl, rfl, rfl, trivial⟩ (fun _ hs => by have h1 := (((hs.pull (.there .here)).pull (.there (.there .here))).pull (.there (.there .here))).drop; have h9 : bfW g so v r (k + 1) = (bfW g so v r k).set eb ((bfW g so v r k).getD ea 0 + el) := (by rw [bfW_step hx]; unfold relS; exact if_pos (show (0 ≤ (bfW g so v r k).getD ea 0 ∧ ((bfW g so v r k).getD eb 0 < 0 ∨ (bfW g so v r k).getD ea 0 + el < (bfW g so v r k).getD eb 0)) from by omega)); (try dsimp only); rw [h9]; exact h1) 
              · refine Ops.q (q_cmp rfl rfl (c_nlt (by omega))) ?_
                refine Ops.q (q_mv rfl) ?_
                refine Ops.q (q_mv rfl) ?_
                refine Ops.q (q_mv rfl) ?_
                refine Ops.q (q_fa fo_82_1 rfl) ?_
                refine Ops.q (q_ldB isA_3 rfl .here rfl) ?_
                refine Ops.q (q_ix (k := eb) esz_26 rfl rfl (by omega)) ?_
                refine Ops.q (q_ldO isA_3 rfl (.there .here) (fm_at0 eInt_len (getD_some (by omega)) rfl)) ?_
                by_cases hC : ((bfW g so v r k).getD ea 0) + el < ((bfW g so v r k).getD eb 0)
                · refine Ops.q (q_cmp rfl rfl (c_lt hC)) ?_
                  refine Ops.q (q_pickF rfl rfl) ?_
                  refine Ops.q (q_pickT rfl rfl) ?_
                  refine Ops.to rfl ?_
                  refine Cd.cond_t rfl ?_
                  refine Cd.region ?_
                  refine Ops.q (q_mv rfl) ?_
                  refine Ops.q (q_fa fo_82_1 rfl) ?_
                  refine Ops.q (q_ldB isA_3 rfl .here rfl) ?_
                  refine Ops.q (q_mv rfl) ?_
                  refine Ops.q (q_ix (k := eb) esz_26 rfl rfl (by omega)) ?_
                  refine Ops.stO [.int .i64 (((bfW g so v r k).getD ea 0) + el)] (((bfW g so v r k).set eb (((bfW g so v r k).getD ea 0) + el)).flatMap eInt) sz_3 rfl rfl rfl (one rfl) (.there .here) (by rw [fm_length eInt_len]; simp only [List.length_cons, List.length_nil]; omega) (fm_set eInt_len (bfW g so v r k) eb (((bfW g so v r k).getD ea 0) + el) (by omega)) ?_
                  refine Ops.to rfl ?_
                  refine Cd.region ?_
                  refine Ops.q (q_ar rfl rfl (a_inc (by omega))) ?_
                  refine Ops.q (q_mv rfl) ?_
                  refine Ops.rnd (k + 1) rfl (by omega) (by omega) ⟨rfl, rfl, rfl, rfl, rfl, rfl, rfl, rfl, rfl, trivial⟩ (fun _ hs => by have h1 := (((hs.pull (.there .here)).pull (.there (.there .here))).pull (.there (.there .here))).drop; have h9 : bfW g so v r (k + 1) = (bfW g so v r k).set eb ((bfW g so v r k).getD ea 0 + el) := (by rw [bfW_step hx]; unfold relS; exact if_pos (show (0 ≤ (bfW g so v r k).getD ea 0 ∧ ((bfW g so v r k).getD eb 0 < 0 ∨ (bfW g so v r k).getD ea 0 + el < (bfW g so v r k).getD eb 0)) from by omega)); (try dsimp only); rw [h9]; exact h1) 
                · refine Ops.q (q_cmp rfl rfl (c_nlt (by omega))) ?_
                  refine Ops.q (q_pickF rfl rfl) ?_
                  refine Ops.q (q_pickT rfl rfl) ?_
                  refine Ops.to rfl ?_
                  refine Cd.cond_f rfl ?_
                  refine Cd.skipTo rfl ?_
                  refine Cd.region ?_
                  refine Ops.q (q_ar rfl rfl (a_inc (by omega))) ?_
                  refine Ops.q (q_mv rfl) ?_
                  refine Ops.rnd (k + 1) rfl (by omega) (by omega) ⟨rfl, rfl, rfl, rfl, rfl, rfl, rfl, rfl, rfl, trivial⟩ (fun _ hs => by have h1 := (((hs.pull (.there .here)).pull (.there (.there .here))).pull (.there (.there .here))).drop; have h9 : bfW g so v r (k + 1) = (bfW g so v r k) := (by rw [bfW_step hx]; unfold relS; exact if_neg (show ¬ (0 ≤ (bfW g so v r k).getD ea 0 ∧ ((bfW g so v r k).getD eb 0 < 0 ∨ (bfW g so v r k).getD ea 0 + el < (bfW g so v r k).getD eb 0)) from by omega)); (try dsimp only); rw [h9]; exact h1) 
            · refine Ops.q (q_cmp rfl rfl (c_nge (by omega))) ?_
              refine Ops.q (q_mv rfl) ?_
              refine Ops.sk ?_
              refine Ops.sk ?_
              refine Ops.sk ?_
              refine Ops.sk ?_
              refine Ops.sk ?_
              refine Ops.sk ?_
              refine Ops.sk ?_
              refine Ops.sk ?_
              refine Ops.sk ?_
              refine Ops.sk ?_
              refine Ops.sk ?_
              refine Ops.sk ?_
              refine Ops.sk ?_
              refine Ops.sk ?_
              refine Ops.sk ?_
              refine Ops.q (q_pickF rfl rfl) ?_
              refine Ops.to rfl ?_
              refine Cd.cond_f rfl ?_
              refine Cd.skipTo rfl ?_
              refine Cd.region ?_
              refine Ops.q (q_ar rfl rfl (a_inc (by omega))) ?_
              refine Ops.q (q_mv rfl) ?_
              refine Ops.rnd (k + 1) rfl (by omega) (by omega) ⟨rfl, rfl, rfl, rfl, rfl, rfl, rfl, rfl, rfl, trivial⟩ (fun _ hs => by have h1 := (((hs.pull (.there .here)).pull (.there (.there .here))).pull (.there (.there .here))).drop; have h9 : bfW g so v r (k + 1) = (bfW g so v r k) := (by rw [bfW_step hx]; unfold relS; exact if_neg (show ¬ (0 ≤ (bfW g so v r k).getD ea 0 ∧ ((bfW g so v r k).getD eb 0 < 0 ∨ (bfW g so v r k).getD ea 0 + el < (bfW g so v r k).getD eb 0)) from by omega)); (try dsimp only); rw [h9]; exact h1) 
          · refine Ops.q (q_cmp rfl rfl (c_nlt (by omega))) ?_
            refine Ops.to rfl ?_
            refine Cd.seq ?_
            refine Cd.cond_f rfl ?_
            refine Cd.exitTo rfl ?_
            refine Cd.region ?_
            refine Ops.q (q_ar rfl rfl (a_inc (by omega))) ?_
            refine Ops.q (q_mv rfl) ?_
            refine Ops.rnd (r + 1) rfl (by omega) (by omega) ⟨rfl, rfl, rfl, rfl, rfl, rfl, trivial⟩ (fun _ hs => by have h1 := ((hs.pull (.there .here)).pull (.there .here)); (try dsimp only); rw [← bfW_end (show g.length ≤ k by omega)]; exact h1) 
        · refine Ops.q (q_cmp rfl rfl (c_nlt (by omega))) ?_
          have hfin : bfR g so v r = dL g so v := by rw [show r = v by omega]; exact hG.bf_all
          rw [hfin]
          refine Ops.to rfl ?_
          refine Cd.seq ?_
          refine Cd.cond_f rfl ?_
          refine Cd.exitTo rfl ?_
          refine Cd.seq ?_
          refine Cd.region ?_
          refine Ops.q (q_mv rfl) ?_
          refine Ops.q (q_mv rfl) ?_
          refine Ops.q (q_mv rfl) ?_
          refine Ops.cl (α := (Option Addr × Nat) × (Option Addr × Nat)) (v := fun x => .tuple [.agg [.slice x.1.1 (pathN g so v).ns.length x.1.2, .int .i64 (pathN g so v).inp, .slice x.2.1 (pathN g so v).ss.length x.2.2].toArray, .int .i64 0].toArray) (B := fun x => [row x.1.1 x.1.2 116 8 (pathN g so v).ns.length ((pathN g so v).ns.flatMap ePrm), row x.2.1 x.2.2 126 4 (pathN g so v).ss.length ((pathN g so v).ss.flatMap eSyn)]) en_34 rfl (fun w hs => retR_ok (paths_c _ _ _ g _ w (hs.ownRo .here)) hG.paths_ok) ?_
          rintro ⟨⟨p, pc⟩, ⟨p2, pc2⟩⟩
          refine Ops.q (q_mv rfl) ?_
          refine Ops.q (q_ext rfl rfl) ?_
          refine Ops.q (q_ext rfl rfl) ?_
          refine Ops.alc [.slice none 0 0, .int .i64 0, .slice none 0 0] zc_32 ?_
          intro b21
          refine Ops.stB [.slice p ((pathN g so v).ns.length) pc, .int .i64 ((pathN g so v).inp), .slice p2 ((pathN g so v).ss.length) pc2] [.slice p ((pathN g so v).ns.length) pc, .int .i64 ((pathN g so v).inp), .slice p2 ((pathN g so v).ss.length) pc2] sz_32 rfl rfl rfl (one rfl) .here rfl rfl ?_
          refine Ops.q (q_asg rfl) ?_
          refine Ops.to rfl ?_
          refine Cd.seq ?_
          refine Cd.seq ?_
          refine Cd.region ?_
          refine Ops.q (q_mv rfl) ?_
          refine Ops.q (q_cmp rfl rfl (c_nne (by decide))) ?_
          refine Ops.q (q_mv rfl) ?_
          refine Ops.q (q_ldBN [.slice p ((pathN g so v).ns.length) pc, .int .i64 ((pathN g so v).inp), .slice p2 ((pathN g so v).ss.length) pc2] isA_32 sz_32 rfl .here rfl) ?_
          refine Ops.cp en_35 rfl (fun w hs => chk0R (check_c _ _ _ _ (pathN g so v).ns (pathN g so v).inp (pathN g so v).ss w (hs.ownRo (.there .here)) (hs.ownRo (.there (.there .here)))) hG.path_net) ?_
          refine Ops.q (q_cmp rfl rfl (c_nne (by decide))) ?_
          refine Ops.q (q_pickF rfl rfl) ?_
          refine Ops.to rfl ?_
          refine Cd.cond_f rfl ?_
          refine Cd.skipTo rfl ?_
          refine Cd.seq ?_
          refine Cd.region ?_
          refine Ops.q (q_ldBN [.slice p ((pathN g so v).ns.length) pc, .int .i64 ((pathN g so v).inp), .slice p2 ((pathN g so v).ss.length) pc2] isA_32 sz_32 rfl .here rfl) ?_
          refine Ops.q (q_bld [.int .i64 0, .int .i64 0] pls_88 zc_88 rfl rfl) ?_
          refine Ops.lit [.int .i64 0, .int .i64 0] el_27 zsb_88 rfl rfl ⟨by decide, by decide⟩ rfl ?_
          intro b22
          refine Ops.q (q_mv rfl) ?_
          refine Ops.q (q_ar rfl rfl (a_mul (by omega))) ?_
          refine Ops.cl (α := Option Addr × Nat) (v := fun x => Value.tuple [Value.slice x.1 (outP g so v).length x.2, Value.int IntKind.i64 0].toArray) (B := fun x => [row x.1 x.2 88 2 (outP g so v).length ((outP g so v).flatMap eEvt)]) en_36 rfl (fun w hs => run_some_n _ _ _ _ (pathN g so v).ns (pathN g so v).inp (pathN g so v).ss _ _ [⟨0, 0⟩] 1 rfl (16 * (v : Int)) w (hs.ownRo (.there (.there .here))) (hs.ownRo (.there (.there (.there .here)))) (hs.ownRo .here) (rowle_any hs .here) (outP g so v) hG.path_prep (by rw [show (16 * (v : Int)).toNat = 16 * v from by omega]; exact hG.path_run)) ?_
          rintro ⟨oa, oac⟩
          refine Ops.q (q_mv rfl) ?_
          refine Ops.q (q_ext rfl rfl) ?_
          refine Ops.q (q_ext rfl rfl) ?_
          refine Ops.q (q_asg rfl) ?_
          refine Ops.q (q_asg rfl) ?_
          refine Ops.to rfl ?_
          refine Cd.seq ?_
          refine Cd.region ?_
          refine Ops.q (q_mv rfl) ?_
          refine Ops.q (q_mv rfl) ?_
          refine Ops.cl (α := Option Addr × Nat) (v := fun x => Value.tuple [Value.slice x.1 (dL g so v).length x.2, Value.int IntKind.i64 0].toArray) (B := fun x => [row x.1 x.2 3 1 (dL g so v).length ((dL g so v).flatMap eInt)]) en_37 rfl (fun w hs => dist_q hG.dist_ok (hs.ownRo .here) (by omega)) ?_
          rintro ⟨da, dac⟩
          refine Ops.q (q_mv rfl) ?_
          refine Ops.q (q_ext rfl rfl) ?_
          refine Ops.q (q_ext rfl rfl) ?_
          refine Ops.q (q_asg rfl) ?_
          refine Ops.q (q_asg rfl) ?_
          refine Ops.to rfl ?_
          refine Cd.seq ?_
          refine Cd.region ?_
          refine Ops.q (q_mv rfl) ?_
          refine Ops.q (q_mv rfl) ?_
          refine Ops.q (q_mv rfl) ?_
          refine Ops.cl (α := Option Addr × Nat) (v := fun x => Value.tuple [Value.slice x.1 (befL g so v).length x.2, Value.int IntKind.i64 0].toArray) (B := fun x => [row x.1 x.2 3 1 (befL g so v).length ((befL g so v).flatMap eInt)]) en_38 rfl (fun w hs => before_q hG.bef_ok (hs.ownRo (.there (.there (.there (.there (.there (.there .here))))))) (hs.ownRo .here)) ?_
          rintro ⟨ba, bac⟩
          refine Ops.q (q_mv rfl) ?_
          refine Ops.q (q_ext rfl rfl) ?_
          refine Ops.q (q_ext rfl rfl) ?_
          refine Ops.q (q_asg rfl) ?_
          refine Ops.q (q_asg rfl) ?_
          refine Ops.to rfl ?_
          refine Cd.seq ?_
          refine Cd.seq ?_
          refine Cd.region ?_
          refine Ops.q (q_mv rfl) ?_
          refine Ops.q (q_cmp rfl rfl (c_nne (by decide))) ?_
          refine Ops.q (q_mv rfl) ?_
          refine Ops.q (q_mv rfl) ?_
          refine Ops.q (q_cmp rfl rfl (c_nne (by decide))) ?_
          refine Ops.q (q_pickF rfl rfl) ?_
          refine Ops.q (q_mv rfl) ?_
          refine Ops.q (q_mv rfl) ?_
          refine Ops.q (q_cmp rfl rfl (c_nne (by decide))) ?_
          refine Ops.q (q_pickF rfl rfl) ?_
          refine Ops.q (q_mv rfl) ?_
          refine Ops.q (q_mv rfl) ?_
          refine Ops.q (q_mv rfl) ?_
          refine Ops.cp en_23 rfl (fun w hs => dT (numbers_n _ _ _ _ (dL g so v) (dL g so v) v (dL_len ..) w (hs.ownRo (.there .here)) (hs.ownRo (.there (.there (.there (.there (.there (.there (.there (.there .here))))))))) (rowmax hs (.there .here))) rfl) ?_
          refine Ops.q (q_not rfl) ?_
          refine Ops.q (q_pickF rfl rfl) ?_
          refine Ops.q (q_mv rfl) ?_
          refine Ops.q (q_mv rfl) ?_
          refine Ops.q (q_len esz_26 rfl) ?_
          refine Ops.q (q_mv rfl) ?_
          refine Ops.q (q_cmp rfl rfl (c_nne (by rw [befL_len]))) ?_
          refine Ops.q (q_pickF rfl rfl) ?_
          refine Ops.to rfl ?_
          refine Cd.cond_f rfl ?_
          refine Cd.skipTo rfl ?_
          refine Cd.seq ?_
          refine Cd.region ?_
          refine Ops.q (q_mv rfl) ?_
          refine Ops.mks (m := v) el_26 zsb_3 rfl rfl (by omega) (by omega) ?_
          intro cb
          refine Ops.q (q_asg rfl) ?_
          refine Ops.to rfl ?_
          refine Cd.seq ?_
          refine Cd.seq ?_
          refine Cd.region ?_
          rw [rep_int, ← cntL_nil]
          refine Ops.q (q_mv rfl) ?_
          refine Ops.q (q_len esz_27 rfl) ?_
          refine Ops.q (q_mv rfl) ?_
          refine Ops.to rfl ?_
          refine Cd.block ?_
          refine Cd.lp (σ := Nat) (fun k => k ≤ (outP g so v).length) (fun k => [(7, .int .i64 (v : Int)), (8, .slice ga g.length gc), (12, .slice (some ⟨wb, 0, none⟩) v v), (22, .slice ba ((befL g so v).length) bac), (24, .slice (some ⟨cb, 0, none⟩) v v), (196, .slice oa ((outP g so v).length) oac), (197, .int .i64 ((outP g so v).length : Int)), (198, .int .i64 (k : Int))]) (fun k => [row (some ⟨cb, 0, none⟩) v 3 1 v ((cntL v ((outP g so v).take k)).flatMap eInt), row oa oac 88 2 ((outP g so v).length) ((outP g so v).flatMap eEvt), row (some ⟨wb, 0, none⟩) v 3 1 v ((dL g so v).flatMap eInt), row ba bac 3 1 ((befL g so v).length) ((befL g so v).flatMap eInt), row ga gc 82 3 g.length (g.flatMap eEdge)]) (fun k => (outP g so v).length - k) 0 (Nat.zero_le _) ⟨rfl, rfl, rfl, rfl, rfl, rfl, rfl, rfl, trivial⟩ (fun _ hs => ((((((((((hs.pull (.there (.there (.there (.there (.there (.there (.there (.there .here))))))))).pull (.there (.there .here))).pull (.there (.there (.there (.there (.there (.there (.there (.there (.there .here)))))))))).pull (.there (.there (.there (.there (.there .here)))))).pull (.there (.there (.there (.there .here))))).pull (.there (.there (.there (.there (.there .here)))))).drop.pull (.there (.there (.there (.there (.there .here)))))).drop.pull (.there (.there (.there (.there (.there .here)))))).drop.pull (.there (.there (.there (.there (.there .here)))))).drop.pull (.there (.there (.there (.there (.there .here)))))).drop) ?_
          intro k hI
          refine Cd.seq ?_
          refine Cd.region ?_
          by_cases hk : (k : Int) < ((outP g so v).length : Int)
          · refine Ops.q (q_cmp rfl rfl (c_lt hk)) ?_
            obtain ⟨⟨xt, xi⟩, hx⟩ : ∃ x, (outP g so v)[k]? = some x := ⟨_, List.getElem?_eq_getElem (by omega)⟩
            obtain ⟨d, hd, hxe, hd0⟩ := hG.out_mem (List.mem_iff_getElem?.2 ⟨k, hx⟩)
            cases hxe
            have hdb := hG.bound hd0
            have hcl := cntL_len v ((outP g so v).take k)
            have hcb : 0 ≤ (cntL v ((outP g so v).take k)).getD d 0 ∧ (cntL v ((outP g so v).take k)).getD d 0 ≤ 100000 := by rw [cntL_getD hd]; have h1 := List.length_filter_le (fun e : Evt => decide (e.id = (d : Int))) ((outP g so v).take k); rw [List.length_take] at h1; have := hG.out_l; omega
            refine Ops.rowpos (.there .here) (by omega) ?_
            rintro ob rfl
            refine Ops.to rfl ?_
            refine Cd.seq ?_
            refine Cd.cond_t rfl ?_
            refine Cd.skipTo rfl ?_
            refine Cd.seq ?_
            refine Cd.block ?_
            refine Cd.seq ?_
            refine Cd.region ?_
            refine Ops.q (q_ix (k := k) esz_27 rfl rfl (by omega)) ?_
            refine Ops.q (q_ldON [.int .i64 (dst g so d + 1), .int .i64 (d : Int)] isA_88 sz_88 rfl (.there .here) (fm_atN eEvt_len hx)) ?_
            refine Ops.alc [.int .i64 0, .int .i64 0] zc_88 ?_
            intro b23
            refine Ops.stB [.int .i64 (dst g so d + 1), .int .i64 (d : Int)] [.int .i64 (dst g so d + 1), .int .i64 (d : Int)] sz_88 rfl rfl rfl (one rfl) .here rfl rfl ?_
            refine Ops.to rfl ?_
            refine Cd.seq ?_
            refine Cd.seq ?_
            refine Cd.draw rfl (by kernel_rfl) (.cons .here (.cons (.there (.there .here)) .nil)) ?_
            intro F24 St25 hP26 hF27 hR28
            refine Dr.q (i := 0) hP26 rfl (by kernel_rfl) (q_fa fo_88_1 rfl) ?_
            refine Dr.q (i := 1) hP26 rfl (by kernel_rfl) (q_ldB isA_3 rfl .here rfl) ?_
            refine Dr.q (i := 2) hP26 rfl (by kernel_rfl) (q_cmp rfl rfl (c_nlt (by omega))) ?_
            refine Dr.q (i := 3) hP26 rfl (by kernel_rfl) (q_mv rfl) ?_
            refine Dr.q (i := 4) hP26 rfl (by kernel_rfl) (q_fa fo_88_1 rfl) ?_
            refine Dr.q (i := 5) hP26 rfl (by kernel_rfl) (q_ldB isA_3 rfl .here rfl) ?_
            refine Dr.q (i := 6) hP26 rfl (by kernel_rfl) (q_mv rfl) ?_
            refine Dr.q (i := 7) hP26 rfl (by kernel_rfl) (q_cmp rfl rfl (c_nge (by omega))) ?_
            refine Dr.q (i := 8) hP26 rfl (by kernel_rfl) (q_pickF rfl rfl) ?_
            refine Dr.q (i := 9) hP26 rfl (by kernel_rfl) (q_mv rfl) ?_
            refine Dr.q (i := 10) hP26 rfl (by kernel_rfl) (q_fa fo_88_0 rfl) ?_
            refine Dr.q (i := 11) hP26 rfl (by kernel_rfl) (q_ldB isA_3 rfl .here rfl) ?_
            refine Dr.q (i := 12) hP26 rfl (by kernel_rfl) (q_mv rfl) ?_
            refine Dr.q (i := 13) hP26 rfl (by kernel_rfl) (q_fa fo_88_1 rfl) ?_
            refine Dr.q (i := 14) hP26 rfl (by kernel_rfl) (q_ldB isA_3 rfl .here rfl) ?_
            refine Dr.q (i := 15) hP26 rfl (by kernel_rfl) (q_ix (k := d) esz_26 rfl rfl (by omega)) ?_
            refine Dr.q (i := 16) hP26 rfl (by kernel_rfl) (q_ldO isA_3 rfl (.there .here) (fm_at0 eInt_len (dL_get hd) rfl)) ?_
            refine Dr.q (i := 17) hP26 rfl (by kernel_rfl) (q_ar rfl rfl (a_add (by omega))) ?_
            refine Dr.q (i := 18) hP26 rfl (by kernel_rfl) (q_cmp rfl rfl (c_nne rfl)) ?_
            refine Dr.q (i := 19) hP26 rfl (by kernel_rfl) (q_pickF rfl rfl) ?_
            refine Dr.q (i := 20) hP26 rfl (by kernel_rfl) (q_mv rfl) ?_
            refine Dr.q (i := 21) hP26 rfl (by kernel_rfl) (q_mv rfl) ?_
            refine Dr.q (i := 22) hP26 rfl (by kernel_rfl) (q_fa fo_88_1 rfl) ?_
            refine Dr.q (i := 23) hP26 rfl (by kernel_rfl) (q_ldB isA_3 rfl .here rfl) ?_
            refine Dr.q (i := 24) hP26 rfl (by kernel_rfl) (q_ix (k := d) esz_26 rfl rfl (by omega)) ?_
            refine Dr.q (i := 25) hP26 rfl (by kernel_rfl) (q_ldO isA_3 rfl (.there .here) (fm_at0 eInt_len (dL_get hd) rfl)) ?_
            refine Dr.q (i := 26) hP26 rfl (by kernel_rfl) (q_cmp rfl rfl (c_nlt (by omega))) ?_
            refine Dr.q (i := 27) hP26 rfl (by kernel_rfl) (q_pickF rfl rfl) ?_
            refine Dr.tail 28 (by kernel_rfl) ?_
            refine Ops.sat ?_ (fun _ hs => hR28 .here hs)
            refine Ops.to rfl ?_
            refine Cd.cond_f rfl ?_
            refine Cd.skipTo rfl ?_
            refine Cd.region ?_
            refine Ops.q (q_mv rfl) ?_
            refine Ops.q (q_fa fo_88_1 rfl) ?_
            refine Ops.q (q_ldB isA_3 rfl .here rfl) ?_
            refine Ops.q (q_ix (k := d) esz_26 rfl rfl (by omega)) ?_
            refine Ops.q (q_ldO isA_3 rfl (.there (.there .here)) (fm_at0 eInt_len (getD_some (by omega)) rfl)) ?_
            refine Ops.q (q_ar rfl rfl (a_add (by omega))) ?_
            refine Ops.q (q_ix (k := d) esz_26 rfl rfl (by omega)) ?_
            refine Ops.stO [.int .i64 (((cntL v ((outP g so v).take k)).getD d 0) + 1)] (((cntL v ((outP g so v).take k)).set d (((cntL v ((outP g so v).take k)).getD d 0) + 1)).flatMap eInt) sz_3 rfl rfl rfl (one rfl) (.there (.there .here)) (by rw [fm_length eInt_len]; simp only [List.length_cons, List.length_nil]; omega) (fm_set eInt_len (cntL v ((outP g so v).take k)) d (((cntL v ((outP g so v).take k)).getD d 0) + 1) (by omega)) ?_
            refine Ops.to rfl ?_
            refine Cd.region ?_
            refine Ops.q (q_ar rfl rfl (a_inc (by omega))) ?_
            refine Ops.q (q_mv rfl) ?_
            refine Ops.rnd (k + 1) rfl (by omega) (by omega) ⟨rfl, rfl, rfl, rfl, rfl, rfl, rfl, rfl, trivial⟩ (fun _ hs => by have h1 := ((((((hs.pull (.there (.there (.there (.there (.there .here)))))).pull (.there (.there (.there (.there (.there .here)))))).pull (.there (.there (.there .here)))).pull (.there (.there (.there (.there (.there .here)))))).pull (.there (.there (.there (.there (.there .here)))))).pull (.there (.there (.there (.there (.there .here)))))).drop; (try dsimp only); rw [cntL_step hx rfl]; exact h1) 
          · refine Ops.q (q_cmp rfl rfl (c_nlt (by omega))) ?_
            rw [show k = (outP g so v).length by omega, List.take_length]
            refine Ops.to rfl ?_
            refine Cd.seq ?_
            refine Cd.cond_f rfl ?_
            refine Cd.exitTo rfl ?_
            refine Cd.seq ?_
            refine Cd.seq ?_
            refine Cd.region ?_
            refine Ops.q (q_mv rfl) ?_
            refine Ops.q (q_mv rfl) ?_
            refine Ops.to rfl ?_
            refine Cd.block ?_
            refine Cd.lp (σ := Nat) (fun i => i ≤ v) (fun i => [(7, .int .i64 (v : Int)), (8, .slice ga g.length gc), (12, .slice (some ⟨wb, 0, none⟩) v v), (22, .slice ba ((befL g so v).length) bac), (24, .slice (some ⟨cb, 0, none⟩) v v), (238, .int .i64 (v : Int)), (239, .int .i64 (i : Int))]) (fun i => [row (some ⟨cb, 0, none⟩) v 3 1 v ((cntL v (outP g so v)).flatMap eInt), row (some ⟨wb, 0, none⟩) v 3 1 v ((dL g so v).flatMap eInt), row ba bac 3 1 ((befL g so v).length) ((befL g so v).flatMap eInt), row ga gc 82 3 g.length (g.flatMap eEdge)]) (fun i => v - i) 0 (Nat.zero_le _) ⟨rfl, rfl, rfl, rfl, rfl, rfl, rfl, trivial⟩ (fun _ hs => (((((hs.pull (.there (.there (.there (.there .here))))).pull (.there (.there (.there (.there .here))))).pull (.there (.there (.there (.there .here))))).pull (.there (.there (.there .here)))).pull (.there (.there (.there (.there .here))))).drop) ?_
            intro i hI
            refine Cd.seq ?_
            refine Cd.region ?_
            by_cases hi : (i : Int) < (v : Int)
            · refine Ops.q (q_cmp rfl rfl (c_lt hi)) ?_
              have hiv : i < v := by omega
              have hge := dst_ge (g := g) (s := so) i
              have hbl := befL_len g so v
              have hib : dst g so i ≤ 1000 := by by_cases c : 0 ≤ dst g so i; (have := hG.bound c; omega); omega
              refine Ops.rowpos (.there (.there .here)) (by omega) ?_
              rintro bb rfl
              refine Ops.to rfl ?_
              refine Cd.seq ?_
              refine Cd.cond_t rfl ?_
              refine Cd.skipTo rfl ?_
              refine Cd.seq ?_
              refine Cd.block ?_
              refine Cd.seq ?_
              refine Cd.region ?_
              refine Ops.q (q_mv rfl) ?_
              refine Ops.q (q_asg rfl) ?_
              refine Ops.to rfl ?_
              refine Cd.seq ?_
              refine Cd.seq ?_
              refine Cd.draw rfl (by kernel_rfl) (.cons .here (.cons .here .nil)) ?_
              intro F29 St30 hP31 hF32 hR33
              refine Dr.q (i := 0) hP31 rfl (by kernel_rfl) (q_mv rfl) ?_
              refine Dr.q (i := 1) hP31 rfl (by kernel_rfl) (q_mv rfl) ?_
              refine Dr.q (i := 2) hP31 rfl (by kernel_rfl) (q_ix (k := i) esz_26 rfl rfl (by omega)) ?_
              refine Dr.q (i := 3) hP31 rfl (by kernel_rfl) (q_ldO isA_3 rfl .here (fm_at0 eInt_len (cnt_at hG (by omega)) rfl)) ?_
              refine Dr.q (i := 4) hP31 rfl (by kernel_rfl) (q_mv rfl) ?_
              refine Dr.q (i := 5) hP31 rfl (by kernel_rfl) (q_mv rfl) ?_
              refine Dr.q (i := 6) hP31 rfl (by kernel_rfl) (q_ix (k := i) esz_26 rfl rfl (by omega)) ?_
              refine Dr.q (i := 7) hP31 rfl (by kernel_rfl) (q_ldO isA_3 rfl (.there .here) (fm_at0 eInt_len (dL_get (by omega)) rfl)) ?_
              refine Dr.q (i := 8) hP31 rfl (by kernel_rfl) (q_ar rfl rfl (a_add (by omega))) ?_
              refine Dr.q (i := 9) hP31 rfl (by kernel_rfl) (q_min rfl rfl) ?_
              refine Dr.q (i := 10) hP31 rfl (by kernel_rfl) (q_cmp rfl rfl (c_nne cnt1_eq)) ?_
              refine Dr.tail 11 (by kernel_rfl) ?_
              refine Ops.sat ?_ (fun _ hs => hR33 .here hs)
              refine Ops.to rfl ?_
              refine Cd.cond_f rfl ?_
              refine Cd.skipTo rfl ?_
              refine Cd.seq ?_
              refine Cd.region ?_
              refine Ops.q (q_mv rfl) ?_
              refine Ops.q (q_mv rfl) ?_
              refine Ops.q (q_ix (k := i) esz_26 rfl rfl (by omega)) ?_
              refine Ops.q (q_ldO isA_3 rfl (.there (.there .here)) (fm_at0 eInt_len (getD_some (by rw [befL_len]; omega)) rfl)) ?_
              refine Ops.q (q_asg rfl) ?_
              refine Ops.to rfl ?_
              refine Cd.seq ?_
              refine Cd.seq ?_
              refine Cd.region ?_
              refine Ops.q (q_mv rfl) ?_
              refine Ops.q (q_mv rfl) ?_
              refine Ops.q (q_ix (k := i) esz_26 rfl rfl (by omega)) ?_
              refine Ops.q (q_ldO isA_3 rfl (.there .here) (fm_at0 eInt_len (dL_get (by omega)) rfl)) ?_
              by_cases hle : (dst g so i) ≤ 0
              · refine Ops.q (q_cmp rfl rfl (c_le hle)) ?_
                refine Ops.to rfl ?_
                refine Cd.cond_t rfl ?_
                refine Cd.seq ?_
                refine Cd.seq ?_
                refine Cd.region ?_
                refine Ops.q (q_mv rfl) ?_
                refine Ops.q (q_cmp rfl rfl (c_nne ((hG.bef_at hiv).1 hle))) ?_
                refine Ops.to rfl ?_
                refine Cd.cond_f rfl ?_
                refine Cd.skipTo rfl ?_
                refine Cd.exitTo rfl ?_
                refine Cd.region ?_
                refine Ops.q (q_ar rfl rfl (a_inc (by omega))) ?_
                refine Ops.q (q_mv rfl) ?_
                refine Ops.rnd (i + 1) rfl (by omega) (by omega) ⟨rfl, rfl, rfl, rfl, rfl, rfl, rfl, trivial⟩ (fun _ hs => ((((hs.pull (.there (.there (.there .here)))).pull (.there (.there (.there .here)))).pull (.there (.there (.there .here)))).pull (.there (.there (.there .here))))) 
              · refine Ops.q (q_cmp rfl rfl (c_nle (by omega))) ?_
                obtain ⟨ee, hem, hes, hed, he0, hel⟩ := (hG.bef_at hiv).2 (by omega)
                have heb := hG.he ee hem
                obtain ⟨b, hb⟩ : ∃ b : Nat, (befL g so v).getD i 0 = (b : Int) := ⟨ee.src.toNat, by omega⟩
                have hbv : b < v := by omega
                have hbs : ee.src.toNat = b := by omega
                rw [hbs] at he0 hel
                have hbb := hG.bound he0
                rw [hb]
                refine Ops.to rfl ?_
                refine Cd.cond_f rfl ?_
                refine Cd.skipTo rfl ?_
                refine Cd.seq ?_
                refine Cd.seq ?_
                refine Cd.region ?_
                refine Ops.q (q_mv rfl) ?_
                refine Ops.q (q_cmp rfl rfl (c_nlt (by omega))) ?_
                refine Ops.q (q_mv rfl) ?_
                refine Ops.q (q_mv rfl) ?_
                refine Ops.q (q_mv rfl) ?_
                refine Ops.q (q_cmp rfl rfl (c_nge (by omega))) ?_
                refine Ops.q (q_pickF rfl rfl) ?_
                refine Ops.to rfl ?_
                refine Cd.cond_f rfl ?_
                refine Cd.skipTo rfl ?_
                refine Cd.seq ?_
                refine Cd.region ?_
                refine Ops.q (q_asg rfl) ?_
                refine Ops.to rfl ?_
                refine Cd.seq ?_
                refine Cd.seq ?_
                refine Cd.region ?_
                refine Ops.q (q_mv rfl) ?_
                refine Ops.q (q_len esz_80 rfl) ?_
                refine Ops.q (q_mv rfl) ?_
                refine Ops.to rfl ?_
                refine Cd.block ?_
                refine Cd.lp (σ := Nat × Bool) (fun s => s.1 ≤ g.length ∧ s.2 = (g.take s.1).any (edgT g so b i)) (fun s => [(7, .int .i64 (v : Int)), (8, .slice ga g.length gc), (12, .slice (some ⟨wb, 0, none⟩) v v), (22, .slice (some ⟨bb, 0, none⟩) ((befL g so v).length) bac), (24, .slice (some ⟨cb, 0, none⟩) v v), (238, .int .i64 (v : Int)), (239, .int .i64 (i : Int)), (27, .int .i64 (i : Int)), (28, .int .i64 (b : Int)), (271, .slice ga g.length gc), (272, .int .i64 (g.length : Int)), (29, .bool s.2), (273, .int .i64 (s.1 : Int))]) (fun s => [row ga gc 82 3 g.length (g.flatMap eEdge), row (some ⟨wb, 0, none⟩) v 3 1 v ((dL g so v).flatMap eInt), row (some ⟨cb, 0, none⟩) v 3 1 v ((cntL v (outP g so v)).flatMap eInt), row (some ⟨bb, 0, none⟩) bac 3 1 ((befL g so v).length) ((befL g so v).flatMap eInt)]) (fun s => g.length - s.1) (0, false) ⟨Nat.zero_le _, rfl⟩ ⟨rfl, rfl, rfl, rfl, rfl, rfl, rfl, rfl, rfl, rfl, rfl, rfl, rfl, trivial⟩ (fun _ hs => ((((hs.pull (.there (.there .here))).pull (.there .here)).pull (.there (.there .here))).pull (.there (.there (.there .here))))) ?_
                rintro ⟨k, fl⟩ hI
                dsimp only at hI
                change Cd _ _ _ _ _ _ _ [(7, .int .i64 (v : Int)), (8, .slice ga g.length gc), (12, .slice (some ⟨wb, 0, none⟩) v v), (22, .slice (some ⟨bb, 0, none⟩) ((befL g so v).length) bac), (24, .slice (some ⟨cb, 0, none⟩) v v), (238, .int .i64 (v : Int)), (239, .int .i64 (i : Int)), (27, .int .i64 (i : Int)), (28, .int .i64 (b : Int)), (271, .slice ga g.length gc), (272, .int .i64 (g.length : Int)), (29, .bool fl), (273, .int .i64 (k : Int))] ([row ga gc 82 3 g.length (g.flatMap eEdge), row (some ⟨wb, 0, none⟩) v 3 1 v ((dL g so v).flatMap eInt), row (some ⟨cb, 0, none⟩) v 3 1 v ((cntL v (outP g so v)).flatMap eInt), row (some ⟨bb, 0, none⟩) bac 3 1 ((befL g so v).length) ((befL g so v).flatMap eInt)])
                have hI1 := hI.1
                have hIb := hI
                refine Cd.seq ?_
                refine Cd.region ?_
                by_cases hk : (k : Int) < (g.length : Int)
                · refine Ops.q (q_cmp rfl rfl (c_lt hk)) ?_
                  obtain ⟨⟨xa, xb, el⟩, hx⟩ : ∃ x, g[k]? = some x := ⟨_, List.getElem?_eq_getElem (by omega)⟩
                  have hxm := List.mem_iff_getElem?.2 ⟨k, hx⟩
                  have hxb := hG.he _ hxm
                  dsimp only at hxb
                  obtain ⟨ea, rfl⟩ : ∃ a : Nat, xa = (a : Int) := ⟨xa.toNat, by omega⟩
                  obtain ⟨eb, rfl⟩ : ∃ a : Nat, xb = (a : Int) := ⟨xb.toNat, by omega⟩
                  refine Ops.rowpos .here (by omega) ?_
                  rintro gb12 rfl
                  refine Ops.to rfl ?_
                  refine Cd.seq ?_
                  refine Cd.cond_t rfl ?_
                  refine Cd.skipTo rfl ?_
                  refine Cd.seq ?_
                  refine Cd.block ?_
                  refine Cd.seq ?_
                  refine Cd.region ?_
                  refine Ops.q (q_ix (k := k) esz_80 rfl rfl (by omega)) ?_
                  refine Ops.q (q_ldON [.int .i64 (ea : Int), .int .i64 (eb : Int), .int .i64 el] isA_82 sz_82 rfl .here (fm_atN eEdge_len hx)) ?_
                  refine Ops.alc [.int .i64 0, .int .i64 0, .int .i64 0] zc_82 ?_
                  intro b34
                  refine Ops.stB [.int .i64 (ea : Int), .int .i64 (eb : Int), .int .i64 el] [.int .i64 (ea : Int), .int .i64 (eb : Int), .int .i64 el] sz_82 rfl rfl rfl (one rfl) .here rfl rfl ?_
                  refine Ops.to rfl ?_
                  by_cases hb35 : fl = true
                  · obtain rfl : fl = true := by simpa using hb35
                    refine Cd.draw rfl (by kernel_rfl) (.cons .here (.cons (.there .here) .nil)) ?_
                    intro F36 St37 hP38 hF39 hR40
                    refine Dr.q (i := 0) hP38 rfl (by kernel_rfl) (q_mv rfl) ?_
                    refine Dr.q (i := 1) hP38 rfl (by kernel_rfl) (q_mv rfl) ?_
                    refine Dr.sk (i := 2) rfl (by kernel_rfl) ?_
                    refine Dr.sk (i := 3) rfl (by kernel_rfl) ?_
                    refine Dr.sk (i := 4) rfl (by kernel_rfl) ?_
                    refine Dr.sk (i := 5) rfl (by kernel_rfl) ?_
                    refine Dr.sk (i := 6) rfl (by kernel_rfl) ?_
                    refine Dr.sk (i := 7) rfl (by kernel_rfl) ?_
                    refine Dr.sk (i := 8) rfl (by kernel_rfl) ?_
                    refine Dr.sk (i := 9) rfl (by kernel_rfl) ?_
                    refine Dr.sk (i := 10) rfl (by kernel_rfl) ?_
                    refine Dr.sk (i := 11) rfl (by kernel_rfl) ?_
                    refine Dr.sk (i := 12) rfl (by kernel_rfl) ?_
                    refine Dr.sk (i := 13) rfl (by kernel_rfl) ?_
                    refine Dr.sk (i := 14) rfl (by kernel_rfl) ?_
                    refine Dr.sk (i := 15) rfl (by kernel_rfl) ?_
                    refine Dr.sk (i := 16) rfl (by kernel_rfl) ?_
                    refine Dr.sk (i := 17) rfl (by kernel_rfl) ?_
                    refine Dr.sk (i := 18) rfl (by kernel_rfl) ?_
                    refine Dr.sk (i := 19) rfl (by kernel_rfl) ?_
                    refine Dr.sk (i := 20) rfl (by kernel_rfl) ?_
                    refine Dr.sk (i := 21) rfl (by kernel_rfl) ?_
                    refine Dr.sk (i := 22) rfl (by kernel_rfl) ?_
                    refine Dr.sk (i := 23) rfl (by kernel_rfl) ?_
                    refine Dr.sk (i := 24) rfl (by kernel_rfl) ?_
                    refine Dr.sk (i := 25) rfl (by kernel_rfl) ?_
                    refine Dr.sk (i := 26) rfl (by kernel_rfl) ?_
                    refine Dr.sk (i := 27) rfl (by kernel_rfl) ?_
                    refine Dr.sk (i := 28) rfl (by kernel_rfl) ?_
                    refine Dr.sk (i := 29) rfl (by kernel_rfl) ?_
                    refine Dr.sk (i := 30) rfl (by kernel_rfl) ?_
                    refine Dr.sk (i := 31) rfl (by kernel_rfl) ?_
                    refine Dr.sk (i := 32) rfl (by kernel_rfl) ?_
                    refine Dr.q (i := 33) hP38 rfl (by kernel_rfl) (q_pickT rfl rfl) ?_
                    refine Dr.tail 34 (by kernel_rfl) ?_
                    refine Ops.sat ?_ (fun _ hs => hR40 .here hs)
                    refine Ops.q (q_asg rfl) ?_
                    refine Ops.to rfl ?_
                    refine Cd.region ?_
                    refine Ops.q (q_ar rfl rfl (a_inc (by omega))) ?_
                    refine Ops.q (q_mv rfl) ?_
                    refine Ops.rnd ((k + 1, true)) rfl (by dsimp only; exact (⟨by omega, by rw [any_step hx, ← hIb.2]; first | rfl | exact (decide_eq_true ⟨hE1, hE2, he0, hE3⟩).symm | exact (decide_eq_false (fun ⟨c1, c2, c3, c4⟩ => by dsimp only at c1 c2 c4; omega)).symm⟩)) (by dsimp only; omega) ⟨rfl, rfl, rfl, rfl, rfl, rfl, rfl, rfl, rfl, rfl, rfl, rfl, rfl, trivial⟩ (fun _ hs => (((((hs.pull (.there (.there (.there (.there .here))))).pull (.there (.there (.there (.there .here))))).pull (.there (.there (.there .here)))).pull (.there (.there (.there (.there .here))))).pull (.there (.there (.there (.there .here))))).drop) 
                  · obtain rfl : fl = false := by simpa using hb35
                    refine Cd.draw rfl (by kernel_rfl) (.cons .here (.cons (.there .here) .nil)) ?_
                    intro F41 St42 hP43 hF44 hR45
                    refine Dr.q (i := 0) hP43 rfl (by kernel_rfl) (q_mv rfl) ?_
                    refine Dr.q (i := 1) hP43 rfl (by kernel_rfl) (q_mv rfl) ?_
                    refine Dr.q (i := 2) hP43 rfl (by kernel_rfl) (q_fa fo_82_0 rfl) ?_
                    refine Dr.q (i := 3) hP43 rfl (by kernel_rfl) (q_ldB isA_3 rfl .here rfl) ?_
                    refine Dr.q (i := 4) hP43 rfl (by kernel_rfl) (q_mv rfl) ?_
                    by_cases hE1 : (ea : Int) = (b : Int)
                    · refine Dr.q (i := 5) hP43 rfl (by kernel_rfl) (q_cmp rfl rfl (c_eq hE1)) ?_
                      refine Dr.q (i := 6) hP43 rfl (by kernel_rfl) (q_mv rfl) ?_
                      refine Dr.q (i := 7) hP43 rfl (by kernel_rfl) (q_fa fo_82_1 rfl) ?_
                      refine Dr.q (i := 8) hP43 rfl (by kernel_rfl) (q_ldB isA_3 rfl .here rfl) ?_
                      refine Dr.q (i := 9) hP43 rfl (by kernel_rfl) (q_mv rfl) ?_
                      by_cases hE2 : (eb : Int) = (i : Int)
                      · refine Dr.q (i := 10) hP43 rfl (by kernel_rfl) (q_cmp rfl rfl (c_eq hE2)) ?_
                        refine Dr.q (i := 11) hP43 rfl (by kernel_rfl) (q_pickT rfl rfl) ?_
                        refine Dr.q (i := 12) hP43 rfl (by kernel_rfl) (q_mv rfl) ?_
                        refine Dr.q (i := 13) hP43 rfl (by kernel_rfl) (q_mv rfl) ?_
                        refine Dr.q (i := 14) hP43 rfl (by kernel_rfl) (q_mv rfl) ?_
                        refine Dr.q (i := 15) hP43 rfl (by kernel_rfl) (q_ix (k := b) esz_26 rfl rfl (by omega)) ?_
                        refine Dr.q (i := 16) hP43 rfl (by kernel_rfl) (q_ldO isA_3 rfl (.there .here) (fm_at0 eInt_len (dL_get hbv) rfl)) ?_
                        refine Dr.q (i := 17) hP43 rfl (by kernel_rfl) (q_cmp rfl rfl (c_ge (by omega))) ?_
                        refine Dr.q (i := 18) hP43 rfl (by kernel_rfl) (q_pickT rfl rfl) ?_
                        refine Dr.q (i := 19) hP43 rfl (by kernel_rfl) (q_mv rfl) ?_
                        refine Dr.q (i := 20) hP43 rfl (by kernel_rfl) (q_mv rfl) ?_
                        refine Dr.q (i := 21) hP43 rfl (by kernel_rfl) (q_mv rfl) ?_
                        refine Dr.q (i := 22) hP43 rfl (by kernel_rfl) (q_ix (k := b) esz_26 rfl rfl (by omega)) ?_
                        refine Dr.q (i := 23) hP43 rfl (by kernel_rfl) (q_ldO isA_3 rfl (.there .here) (fm_at0 eInt_len (dL_get hbv) rfl)) ?_
                        refine Dr.q (i := 24) hP43 rfl (by kernel_rfl) (q_fa fo_82_2 rfl) ?_
                        refine Dr.q (i := 25) hP43 rfl (by kernel_rfl) (q_ldB isA_3 rfl .here rfl) ?_
                        refine Dr.q (i := 26) hP43 rfl (by kernel_rfl) (q_ar rfl rfl (a_add (by omega))) ?_
                        refine Dr.q (i := 27) hP43 rfl (by kernel_rfl) (q_mv rfl) ?_
                        refine Dr.q (i := 28) hP43 rfl (by kernel_rfl) (q_mv rfl) ?_
                        refine Dr.q (i := 29) hP43 rfl (by kernel_rfl) (q_ix (k := i) esz_26 rfl rfl (by omega)) ?_
                        refine Dr.q (i := 30) hP43 rfl (by kernel_rfl) (q_ldO isA_3 rfl (.there .here) (fm_at0 eInt_len (dL_get (by omega)) rfl)) ?_
                        by_cases hE3 : (dst g so b) + el = (dst g so i)
                        · refine Dr.q (i := 31) hP43 rfl (by kernel_rfl) (q_cmp rfl rfl (c_eq hE3)) ?_
                          refine Dr.q (i := 32) hP43 rfl (by kernel_rfl) (q_pickT rfl rfl) ?_
                          refine Dr.q (i := 33) hP43 rfl (by kernel_rfl) (q_pickF rfl rfl) ?_
                          refine Dr.tail 34 (by kernel_rfl) ?_
                          refine Ops.sat ?_ (fun _ hs => hR45 .here hs)
                          refine Ops.q (q_asg rfl) ?_
                          refine Ops.to rfl ?_
                          refine Cd.region ?_
                          refine Ops.q (q_ar rfl rfl (a_inc (by omega))) ?_
                          refine Ops.q (q_mv rfl) ?_
                          refine Ops.rnd ((k + 1, true)) rfl (by dsimp only; exact (⟨by omega, by rw [any_step hx, ← hIb.2]; first | rfl | exact (decide_eq_true ⟨hE1, hE2, he0, hE3⟩).symm | exact (decide_eq_false (fun ⟨c1, c2, c3, c4⟩ => by dsimp only at c1 c2 c4; omega)).symm⟩)) (by dsimp only; omega) ⟨rfl, rfl, rfl, rfl, rfl, rfl, rfl, rfl, rfl, rfl, rfl, rfl, rfl, trivial⟩ (fun _ hs => (((((hs.pull (.there (.there (.there (.there .here))))).pull (.there (.there (.there (.there .here))))).pull (.there (.there (.there .here)))).pull (.there (.there (.there (.there .here))))).pull (.there (.there (.there (.there .here))))).drop) 
                        · refine Dr.q (i := 31) hP43 rfl (by kernel_rfl) (q_cmp rfl rfl (c_neq hE3)) ?_
                          refine Dr.q (i := 32) hP43 rfl (by kernel_rfl) (q_pickT rfl rfl) ?_
                          refine Dr.q (i := 33) hP43 rfl (by kernel_rfl) (q_pickF rfl rfl) ?_
                          refine Dr.tail 34 (by kernel_rfl) ?_
                          refine Ops.sat ?_ (fun _ hs => hR45 .here hs)
                          refine Ops.q (q_asg rfl) ?_
                          refine Ops.to rfl ?_
                          refine Cd.region ?_
                          refine Ops.q (q_ar rfl rfl (a_inc (by omega))) ?_
                          refine Ops.q (q_mv rfl) ?_
                          refine Ops.rnd ((k + 1, false)) rfl (by dsimp only; exact (⟨by omega, by rw [any_step hx, ← hIb.2]; first | rfl | exact (decide_eq_true ⟨hE1, hE2, he0, hE3⟩).symm | exact (decide_eq_false (fun ⟨c1, c2, c3, c4⟩ => by dsimp only at c1 c2 c4; omega)).symm⟩)) (by dsimp only; omega) ⟨rfl, rfl, rfl, rfl, rfl, rfl, rfl, rfl, rfl, rfl, rfl, rfl, rfl, trivial⟩ (fun _ hs => (((((hs.pull (.there (.there (.there (.there .here))))).pull (.there (.there (.there (.there .here))))).pull (.there (.there (.there .here)))).pull (.there (.there (.there (.there .here))))).pull (.there (.there (.there (.there .here))))).drop) 
                      · refine Dr.q (i := 10) hP43 rfl (by kernel_rfl) (q_cmp rfl rfl (c_neq hE2)) ?_
                        refine Dr.q (i := 11) hP43 rfl (by kernel_rfl) (q_pickT rfl rfl) ?_
                        refine Dr.q (i := 12) hP43 rfl (by kernel_rfl) (q_mv rfl) ?_
                        refine Dr.sk (i := 13) rfl (by kernel_rfl) ?_
                        refine Dr.sk (i := 14) rfl (by kernel_rfl) ?_
                        refine Dr.sk (i := 15) rfl (by kernel_rfl) ?_
                        refine Dr.sk (i := 16) rfl (by kernel_rfl) ?_
                        refine Dr.sk (i := 17) rfl (by kernel_rfl) ?_
                        refine Dr.q (i := 18) hP43 rfl (by kernel_rfl) (q_pickF rfl rfl) ?_
                        refine Dr.q (i := 19) hP43 rfl (by kernel_rfl) (q_mv rfl) ?_
                        refine Dr.sk (i := 20) rfl (by kernel_rfl) ?_
                        refine Dr.sk (i := 21) rfl (by kernel_rfl) ?_
                        refine Dr.sk (i := 22) rfl (by kernel_rfl) ?_
                        refine Dr.sk (i := 23) rfl (by kernel_rfl) ?_
                        refine Dr.sk (i := 24) rfl (by kernel_rfl) ?_
                        refine Dr.sk (i := 25) rfl (by kernel_rfl) ?_
                        refine Dr.sk (i := 26) rfl (by kernel_rfl) ?_
                        refine Dr.sk (i := 27) rfl (by kernel_rfl) ?_
                        refine Dr.sk (i := 28) rfl (by kernel_rfl) ?_
                        refine Dr.sk (i := 29) rfl (by kernel_rfl) ?_
                        refine Dr.sk (i := 30) rfl (by kernel_rfl) ?_
                        refine Dr.sk (i := 31) rfl (by kernel_rfl) ?_
                        refine Dr.q (i := 32) hP43 rfl (by kernel_rfl) (q_pickF rfl rfl) ?_
                        refine Dr.q (i := 33) hP43 rfl (by kernel_rfl) (q_pickF rfl rfl) ?_
                        refine Dr.tail 34 (by kernel_rfl) ?_
                        refine Ops.sat ?_ (fun _ hs => hR45 .here hs)
                        refine Ops.q (q_asg rfl) ?_
                        refine Ops.to rfl ?_
                        refine Cd.region ?_
                        refine Ops.q (q_ar rfl rfl (a_inc (by omega))) ?_
                        refine Ops.q (q_mv rfl) ?_
                        refine Ops.rnd ((k + 1, false)) rfl (by dsimp only; exact (⟨by omega, by rw [any_step hx, ← hIb.2]; first | rfl | exact (decide_eq_true ⟨hE1, hE2, he0, hE3⟩).symm | exact (decide_eq_false (fun ⟨c1, c2, c3, c4⟩ => by dsimp only at c1 c2 c4; omega)).symm⟩)) (by dsimp only; omega) ⟨rfl, rfl, rfl, rfl, rfl, rfl, rfl, rfl, rfl, rfl, rfl, rfl, rfl, trivial⟩ (fun _ hs => (((((hs.pull (.there (.there (.there (.there .here))))).pull (.there (.there (.there (.there .here))))).pull (.there (.there (.there .here)))).pull (.there (.there (.there (.there .here))))).pull (.there (.there (.there (.there .here))))).drop) 
                    · refine Dr.q (i := 5) hP43 rfl (by kernel_rfl) (q_cmp rfl rfl (c_neq hE1)) ?_
                      refine Dr.q (i := 6) hP43 rfl (by kernel_rfl) (q_mv rfl) ?_
                      refine Dr.sk (i := 7) rfl (by kernel_rfl) ?_
                      refine Dr.sk (i := 8) rfl (by kernel_rfl) ?_
                      refine Dr.sk (i := 9) rfl (by kernel_rfl) ?_
                      refine Dr.sk (i := 10) rfl (by kernel_rfl) ?_
                      refine Dr.q (i := 11) hP43 rfl (by kernel_rfl) (q_pickF rfl rfl) ?_
                      refine Dr.q (i := 12) hP43 rfl (by kernel_rfl) (q_mv rfl) ?_
                      refine Dr.sk (i := 13) rfl (by kernel_rfl) ?_
                      refine Dr.sk (i := 14) rfl (by kernel_rfl) ?_
                      refine Dr.sk (i := 15) rfl (by kernel_rfl) ?_
                      refine Dr.sk (i := 16) rfl (by kernel_rfl) ?_
                      refine Dr.sk (i := 17) rfl (by kernel_rfl) ?_
                      refine Dr.q (i := 18) hP43 rfl (by kernel_rfl) (q_pickF rfl rfl) ?_
                      refine Dr.q (i := 19) hP43 rfl (by kernel_rfl) (q_mv rfl) ?_
                      refine Dr.sk (i := 20) rfl (by kernel_rfl) ?_
                      refine Dr.sk (i := 21) rfl (by kernel_rfl) ?_
                      refine Dr.sk (i := 22) rfl (by kernel_rfl) ?_
                      refine Dr.sk (i := 23) rfl (by kernel_rfl) ?_
                      refine Dr.sk (i := 24) rfl (by kernel_rfl) ?_
                      refine Dr.sk (i := 25) rfl (by kernel_rfl) ?_
                      refine Dr.sk (i := 26) rfl (by kernel_rfl) ?_
                      refine Dr.sk (i := 27) rfl (by kernel_rfl) ?_
                      refine Dr.sk (i := 28) rfl (by kernel_rfl) ?_
                      refine Dr.sk (i := 29) rfl (by kernel_rfl) ?_
                      refine Dr.sk (i := 30) rfl (by kernel_rfl) ?_
                      refine Dr.sk (i := 31) rfl (by kernel_rfl) ?_
                      refine Dr.q (i := 32) hP43 rfl (by kernel_rfl) (q_pickF rfl rfl) ?_
                      refine Dr.q (i := 33) hP43 rfl (by kernel_rfl) (q_pickF rfl rfl) ?_
                      refine Dr.tail 34 (by kernel_rfl) ?_
                      refine Ops.sat ?_ (fun _ hs => hR45 .here hs)
                      refine Ops.q (q_asg rfl) ?_
                      refine Ops.to rfl ?_
                      refine Cd.region ?_
                      refine Ops.q (q_ar rfl rfl (a_inc (by omega))) ?_
                      refine Ops.q (q_mv rfl) ?_
                      refine Ops.rnd ((k + 1, false)) rfl (by dsimp only; exact (⟨by omega, by rw [any_step hx, ← hIb.2]; first | rfl | exact (decide_eq_true ⟨hE1, hE2, he0, hE3⟩).symm | exact (decide_eq_false (fun ⟨c1, c2, c3, c4⟩ => by dsimp only at c1 c2 c4; omega)).symm⟩)) (by dsimp only; omega) ⟨rfl, rfl, rfl, rfl, rfl, rfl, rfl, rfl, rfl, rfl, rfl, rfl, rfl, trivial⟩ (fun _ hs => (((((hs.pull (.there (.there (.there (.there .here))))).pull (.there (.there (.there (.there .here))))).pull (.there (.there (.there .here)))).pull (.there (.there (.there (.there .here))))).pull (.there (.there (.there (.there .here))))).drop) 
                · refine Ops.q (q_cmp rfl rfl (c_nlt (by omega))) ?_
                  have hfl : fl = true := by rw [hI.2, List.take_of_length_le (by omega), List.any_eq_true]; exact ⟨ee, hem, decide_eq_true ⟨by omega, hed, he0, by omega⟩⟩
                  obtain rfl : fl = true := hfl
                  refine Ops.to rfl ?_
                  refine Cd.seq ?_
                  refine Cd.cond_f rfl ?_
                  refine Cd.exitTo rfl ?_
                  refine Cd.seq ?_
                  refine Cd.region ?_
                  refine Ops.q (q_mv rfl) ?_
                  refine Ops.q (q_not rfl) ?_
                  refine Ops.to rfl ?_
                  refine Cd.cond_f rfl ?_
                  refine Cd.skipTo rfl ?_
                  refine Cd.region ?_
                  refine Ops.q (q_ar rfl rfl (a_inc (by omega))) ?_
                  refine Ops.q (q_mv rfl) ?_
                  refine Ops.rnd (i + 1) rfl (by omega) (by omega) ⟨rfl, rfl, rfl, rfl, rfl, rfl, rfl, trivial⟩ (fun _ hs => ((((hs.pull .here).pull (.there (.there (.there .here)))).pull (.there (.there .here))).pull (.there (.there (.there .here))))) 
            · refine Ops.q (q_cmp rfl rfl (c_nlt (by omega))) ?_
              refine Ops.to rfl ?_
              refine Cd.seq ?_
              refine Cd.cond_f rfl ?_
              refine Cd.exitTo rfl ?_
              refine Cd.seq ?_
              refine Cd.region ?_
              refine Ops.cp en_13 rfl (fun w hs => works_c w) ?_
              refine Ops.q (q_asg rfl) ?_
              refine Ops.to rfl ?_
              refine Cd.rt (fn := Try.f6) [.bool true] (by with_reducible repeat (first | exact rq_here | apply rq_then | apply rq_block)) rfl ⟨rfl, trivial⟩ ?_
              intro w' hs'
              exact ⟨rfl, hs'.none⟩
end Go.Proofs.Ytilcdghliigngaa
