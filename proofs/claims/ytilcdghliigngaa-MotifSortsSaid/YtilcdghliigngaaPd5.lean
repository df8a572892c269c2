/- Part of a claim: the program logic, the contracts of the functions, their models. No condition. -/
import Derived.WalkKit
import Derived.OwnWalkIn
import Derived.TacticsInMore
import Derived.OrdersIn
import Derived.RangeFuncLeaves
import Derived.RangeFuncNested
import Derived.Maps.AppendAt
import Derived.Shelf.Abstract
import Derived.Test.YtilcdghliigngaaProg
import Derived.MapKept
import Derived.Laws.StructEq
import Derived.Laws.OwnMore
import Derived.RangeFuncRecord
import Derived.Lib.SliceRun
import Derived.Lib.AppendZeros
import Derived.Lib.AppendZerosOnto
import Derived.Lib.Overlaps
import Derived.Laws.Externs
import Derived.Test.YtilcdghliigngaaPd4
namespace Go.Proofs.Ytilcdghliigngaa
open Go.RowKit Go.Proofs.YtilcdghliigngaaGl Go.Proofs.YtilcdghliigngaaPm
set_option linter.unusedVariables false
set_option linter.unusedSimpArgs false
def eU8 (x : Int) : List Value := [.int .u8 x]
theorem eU8_len (x : Int) : (eU8 x).length = 1 := rfl
def sortN (n : Nat) : NetP := ⟨sortNs n, (n : Int), selvesFrom 0 n ++ (List.range n).flatMap (sortTo n)⟩
theorem sortP_ok {n : Nat} (h : 1 ≤ n ∧ n ≤ 40) : sortP (n : Int) = .ok (sortN n) := by
  unfold sortP
  rw [if_pos (by unfold wi; omega), Int.toNat_natCast]; rfl
abbrev tkS (tks : List Int) (i : Nat) : Nat := (tks.getD i 0).toNat
def idlP (tk : Nat → Nat) (k j : Nat) : List Int := ((List.range j).filter (fun i => decide (tk i = k))).map (fun i : Nat => (i : Int))
theorem idlP_yes {tk : Nat → Nat} {k j : Nat} (h : tk j = k) : idlP tk k (j + 1) = idlP tk k j ++ [(j : Int)] := by
  unfold idlP; rw [List.range_succ, List.filter_append, List.map_append]; simp [h]
theorem idlP_no {tk : Nat → Nat} {k j : Nat} (h : ¬ tk j = k) : idlP tk k (j + 1) = idlP tk k j := by
  unfold idlP; rw [List.range_succ, List.filter_append, List.map_append]; simp [h]
def evP (n : Nat) (tk : Nat → Nat) (k j : Nat) : List Evt := evF (idlS n tk) 0 k ++ (idlP tk k j).map (fun i => (⟨(k : Int), i⟩ : Evt))
def waP (n : Nat) (tk : Nat → Nat) (k j : Nat) : List Int := wantS n tk k ++ List.replicate (idlP tk k j).length (k : Int)
theorem evP_yes {n : Nat} {tk : Nat → Nat} {k j : Nat} (h : tk j = k) : evP n tk k (j + 1) = evP n tk k j ++ [⟨(k : Int), (j : Int)⟩] := by
  unfold evP; rw [idlP_yes h, List.map_append, ← List.append_assoc]; rfl
theorem waP_yes {n : Nat} {tk : Nat → Nat} {k j : Nat} (h : tk j = k) : waP n tk k (j + 1) = waP n tk k j ++ [(k : Int)] := by
  unfold waP; rw [idlP_yes h, List.length_append, List.append_assoc]
  show _ ++ List.replicate ((idlP tk k j).length + 1) _ = _
  rw [List.replicate_succ']
theorem evP_no {n : Nat} {tk : Nat → Nat} {k j : Nat} (h : ¬ tk j = k) : evP n tk k (j + 1) = evP n tk k j := by unfold evP; rw [idlP_no h]
theorem waP_no {n : Nat} {tk : Nat → Nat} {k j : Nat} (h : ¬ tk j = k) : waP n tk k (j + 1) = waP n tk k j := by unfold waP; rw [idlP_no h]
theorem evP_zero {n : Nat} {tk : Nat → Nat} {k : Nat} : evP n tk k 0 = evF (idlS n tk) 0 k := by unfold evP idlP; simp
theorem waP_zero {n : Nat} {tk : Nat → Nat} {k : Nat} : waP n tk k 0 = wantS n tk k := by unfold waP idlP; simp
theorem evP_end {n : Nat} {tk : Nat → Nat} {k : Nat} : evP n tk k n = evF (idlS n tk) 0 (k + 1) := by
  rw [evF_app, Nat.zero_add]; rfl
theorem waP_end {n : Nat} {tk : Nat → Nat} {k : Nat} : waP n tk k n = wantS n tk (k + 1) := rfl
theorem idlP_len (tk : Nat → Nat) (k j : Nat) : (idlP tk k j).length ≤ j := by
  unfold idlP
  rw [List.length_map]
  have := List.length_filter_le (fun i => decide (tk i = k)) (List.range j)
  rwa [List.length_range] at this
theorem evP_len (n : Nat) (tk : Nat → Nat) (k j : Nat) : (evP n tk k j).length ≤ n + j := by
  have h1 := idlP_len tk k j
  have h2 := cntS_le (n := n) (tk := tk) k
  unfold evP
  rw [List.length_append, evS_len, List.length_map]; omega
theorem waP_len (n : Nat) (tk : Nat → Nat) (k j : Nat) : (waP n tk k j).length ≤ n + j := by
  have h1 := idlP_len tk k j
  have h2 := cntS_le (n := n) (tk := tk) k
  unfold waP
  rw [List.length_append, wantS_len, List.length_replicate]; omega
theorem wantS_mem {n : Nat} {tk : Nat → Nat} : ∀ {T : Nat} {v : Int}, v ∈ wantS n tk T → 0 ≤ v ∧ v < (T : Int)
  | 0, v, h => by cases h
  | T + 1, v, h => by
    rcases List.mem_append.1 h with h | h
    · have := wantS_mem h; omega
    · have := List.eq_of_mem_replicate h; omega
def spkS (n : Nat) (tk : Nat → Nat) : List Evt := (wantS n tk 256).zipIdx.map (fun p => (⟨p.1 + 1, (p.2 : Int)⟩ : Evt))
theorem spkS_len {n : Nat} {tk : Nat → Nat} (h : ∀ i, i < n → tk i < 256) : (spkS n tk).length = n := by
  unfold spkS; rw [List.length_map, List.length_zipIdx, wantS_len, cntS_all h]
theorem spkS_get {n : Nat} {tk : Nat → Nat} {j : Nat} {x : Evt} {v : Int} (hx : (spkS n tk)[j]? = some x) (hv : (wantS n tk 256)[j]? = some v) : x = ⟨v + 1, (j : Int)⟩ := by
  unfold spkS at hx
  rw [List.getElem?_map, List.getElem?_zipIdx, hv] at hx
  simp at hx
  exact hx.symm
theorem chk0 {vs : Array Value} {w : World} {N : NetP} (h : Calls Try.prog 35 vs w fun e w' => e = .returned (.int .i64 (netCheck N)) ∧ Sat w w' []) (hz : netCheck N = 0) : Calls Try.prog 35 vs w fun e w' => e = .returned (.int .i64 0) ∧ Sat w w' [] := by
  rwa [hz] at h
theorem sorts_c (ta : Option Addr) (tc : Nat) (tks : List Int) (w : World) (hT : RoL w ta eU8 tks) (hb : ∀ x ∈ tks, 0 ≤ x ∧ x ≤ 255) : Calls Try.prog 7 [.slice ta tks.length tc].toArray w fun e w' => e = .returned (.bool true) ∧ Sat w w' [] := by
  refine fstart Try.func7 rfl rfl (Sat.nil w) ?_
  refine Cd.seq ?_
  refine Cd.region ?_
  refine Ops.q (q_asg rfl) ?_
  refine Ops.to rfl ?_
  refine Cd.seq ?_
  refine Cd.region ?_
  refine Ops.q (q_mv rfl) ?_
  refine Ops.q (q_len esz_92 rfl) ?_
  refine Ops.q (q_asg rfl) ?_
  refine Ops.to rfl ?_
  refine Cd.seq ?_
  refine Cd.seq ?_
  refine Cd.region ?_
  refine Ops.q (q_mv rfl) ?_
  by_cases h1 : (tks.length : Int) < 1
  · refine Ops.q (q_cmp rfl rfl (c_lt h1)) ?_
    refine Ops.q (q_mv rfl) ?_
    refine Ops.sk ?_
    refine Ops.sk ?_
    refine Ops.q (q_pickT rfl rfl) ?_
    refine Ops.to rfl ?_
    refine Cd.cond_t rfl ?_
    refine Cd.seq ?_
    refine Cd.region ?_
    refine Ops.cp en_13 rfl (fun w hs => works_c w) ?_
    refine Ops.q (q_asg rfl) ?_
    refine Ops.to rfl ?_
    refine Cd.rt (fn := Try.f7) [.bool true] (by with_reducible repeat (first | exact rq_here | apply rq_then | apply rq_block)) rfl ⟨rfl, trivial⟩ ?_
    intro w' hs'
    exact ⟨rfl, hs'.none⟩
  · refine Ops.q (q_cmp rfl rfl (c_nlt (by omega))) ?_
    refine Ops.q (q_mv rfl) ?_
    refine Ops.q (q_mv rfl) ?_
    by_cases h2 : 40 < (tks.length : Int)
    · refine Ops.q (q_cmp rfl rfl (c_gt h2)) ?_
      refine Ops.q (q_pickF rfl rfl) ?_
      refine Ops.to rfl ?_
      refine Cd.cond_t rfl ?_
      refine Cd.seq ?_
      refine Cd.region ?_
      refine Ops.cp en_13 rfl (fun w hs => works_c w) ?_
      refine Ops.q (q_asg rfl) ?_
      refine Ops.to rfl ?_
      refine Cd.rt (fn := Try.f7) [.bool true] (by with_reducible repeat (first | exact rq_here | apply rq_then | apply rq_block)) rfl ⟨rfl, trivial⟩ ?_
      intro w' hs'
      exact ⟨rfl, hs'.none⟩
    · refine Ops.q (q_cmp rfl rfl (c_ngt (by omega))) ?_
      refine Ops.q (q_pickF rfl rfl) ?_
      refine Ops.to rfl ?_
      refine Cd.cond_f rfl ?_
      refine Cd.skipTo rfl ?_
      refine Cd.seq ?_
      refine Cd.region ?_
      have hn : 1 ≤ tks.length ∧ tks.length ≤ 40 := by omega
      have htl : ∀ i, i < tks.length → tkS tks i < 256 := by intro i hi; have := hb _ (List.mem_iff_getElem?.2 ⟨i, List.getElem?_eq_getElem hi⟩); unfold tkS; rw [getD_at (List.getElem?_eq_getElem hi)]; omega
      refine Ops.q (q_asg rfl) ?_
      refine Ops.to rfl ?_
      refine Cd.seq ?_
      refine Cd.region ?_
      refine Ops.q (q_asg rfl) ?_
      refine Ops.to rfl ?_
      refine Cd.seq ?_
      refine Cd.seq ?_
      refine Cd.region ?_
      refine Ops.q (q_mv rfl) ?_
      refine Ops.to rfl ?_
      refine Cd.block ?_
      refine Cd.lp (σ := Nat × Option Addr × Nat × Option Addr × Nat) (fun s => s.1 ≤ 256) (fun s => [(0, .slice ta tks.length tc), (3, .int .i64 (tks.length : Int)), (4, .slice s.2.1 ((evF (idlS tks.length (tkS tks)) 0 s.1).length) s.2.2.1), (5, .slice s.2.2.2.1 ((wantS tks.length (tkS tks) s.1).length) s.2.2.2.2), (23, .int .i64 (s.1 : Int))]) (fun s => [row s.2.1 s.2.2.1 88 2 ((evF (idlS tks.length (tkS tks)) 0 s.1).length) ((evF (idlS tks.length (tkS tks)) 0 s.1).flatMap eEvt), row s.2.2.2.1 s.2.2.2.2 3 1 ((wantS tks.length (tkS tks) s.1).length) ((wantS tks.length (tkS tks) s.1).flatMap eInt)]) (fun s => 256 - s.1) (0, none, 0, none, 0) (Nat.zero_le _) ⟨rfl, rfl, rfl, rfl, rfl, trivial⟩ (fun _ hs => (hs.nilRow 3 1).nilRow 88 2) ?_
      rintro ⟨k, ea, ec, wa, wc⟩ hI
      dsimp only at hI
      change Cd _ _ _ _ _ _ _ [(0, .slice ta tks.length tc), (3, .int .i64 (tks.length : Int)), (4, .slice ea ((evF (idlS tks.length (tkS tks)) 0 k).length) ec), (5, .slice wa ((wantS tks.length (tkS tks) k).length) wc), (23, .int .i64 (k : Int))] ([row ea ec 88 2 ((evF (idlS tks.length (tkS tks)) 0 k).length) ((evF (idlS tks.length (tkS tks)) 0 k).flatMap eEvt), row wa wc 3 1 ((wantS tks.length (tkS tks) k).length) ((wantS tks.length (tkS tks) k).flatMap eInt)])
      refine Cd.seq ?_
      refine Cd.region ?_
      by_cases hk : (k : Int) < 256
      · refine Ops.q (q_cmp rfl rfl (c_lt hk)) ?_
        refine Ops.to rfl ?_
        refine Cd.seq ?_
        refine Cd.cond_t rfl ?_
        refine Cd.skipTo rfl ?_
        refine Cd.seq ?_
        refine Cd.block ?_
        refine Cd.seq ?_
        refine Cd.region ?_
        refine Ops.q (q_mv rfl) ?_
        refine Ops.q (q_asg rfl) ?_
        refine Ops.to rfl ?_
        refine Cd.seq ?_
        refine Cd.region ?_
        refine Ops.q (q_mv rfl) ?_
        refine Ops.q (q_len esz_92 rfl) ?_
        refine Ops.q (q_mv rfl) ?_
        refine Ops.to rfl ?_
        refine Cd.block ?_
        refine Cd.lp (σ := Nat × Option Addr × Nat × Option Addr × Nat) (fun s => s.1 ≤ tks.length) (fun s => [(0, .slice ta tks.length tc), (3, .int .i64 (tks.length : Int)), (4, .slice s.2.1 ((evP tks.length (tkS tks) k s.1).length) s.2.2.1), (5, .slice s.2.2.2.1 ((waP tks.length (tkS tks) k s.1).length) s.2.2.2.2), (23, .int .i64 (k : Int)), (6, .int .i64 (k : Int)), (26, .slice ta tks.length tc), (27, .int .i64 (tks.length : Int)), (28, .int .i64 (s.1 : Int))]) (fun s => [row s.2.1 s.2.2.1 88 2 ((evP tks.length (tkS tks) k s.1).length) ((evP tks.length (tkS tks) k s.1).flatMap eEvt), row s.2.2.2.1 s.2.2.2.2 3 1 ((waP tks.length (tkS tks) k s.1).length) ((waP tks.length (tkS tks) k s.1).flatMap eInt)]) (fun s => tks.length - s.1) (0, ea, ec, wa, wc) (Nat.zero_le _) ⟨rfl, rfl, (by (try dsimp only); rw [evP_zero]; rfl), (by (try dsimp only); rw [waP_zero]; rfl), rfl, rfl, rfl, rfl, rfl, trivial⟩ (fun _ hs => by have h1 := ((hs.pull (.there .here)).pull (.there .here)); (try dsimp only); rw [evP_zero, waP_zero]; exact h1) ?_
        rintro ⟨j, fa, fc, ua, uc⟩ hI
        dsimp only at hI
        change Cd _ _ _ _ _ _ _ [(0, .slice ta tks.length tc), (3, .int .i64 (tks.length : Int)), (4, .slice fa ((evP tks.length (tkS tks) k j).length) fc), (5, .slice ua ((waP tks.length (tkS tks) k j).length) uc), (23, .int .i64 (k : Int)), (6, .int .i64 (k : Int)), (26, .slice ta tks.length tc), (27, .int .i64 (tks.length : Int)), (28, .int .i64 (j : Int))] ([row fa fc 88 2 ((evP tks.length (tkS tks) k j).length) ((evP tks.length (tkS tks) k j).flatMap eEvt), row ua uc 3 1 ((waP tks.length (tkS tks) k j).length) ((waP tks.length (tkS tks) k j).flatMap eInt)])
        refine Cd.seq ?_
        refine Cd.region ?_
        by_cases hj : (j : Int) < (tks.length : Int)
        · refine Ops.q (q_cmp rfl rfl (c_lt hj)) ?_
          obtain ⟨x3, hx4⟩ : ∃ x, tks[j]? = some x := ⟨_, List.getElem?_eq_getElem (by omega)⟩
          obtain ⟨ab5, ao6, rfl⟩ := RoL.pos hT eU8_len hx4
          have hxb := hb x3 (List.mem_iff_getElem?.2 ⟨j, hx4⟩)
          have htk : tkS tks j = x3.toNat := by unfold tkS; rw [getD_at hx4]
          have hpl := evP_len tks.length (tkS tks) k j
          have hwl := waP_len tks.length (tkS tks) k j
          refine Ops.to rfl ?_
          refine Cd.seq ?_
          refine Cd.cond_t rfl ?_
          refine Cd.skipTo rfl ?_
          refine Cd.seq ?_
          refine Cd.block ?_
          refine Cd.seq ?_
          refine Cd.region ?_
          refine Ops.q (q_mv rfl) ?_
          refine Ops.q (q_ix (k := j) esz_92 rfl rfl (by omega)) ?_
          refine Ops.q (q_ldR isA_5 rfl (hT.at0 eU8_len hx4 rfl)) ?_
          refine Ops.q (q_asg rfl) ?_
          refine Ops.q (q_asg rfl) ?_
          refine Ops.to rfl ?_
          refine Cd.seq ?_
          refine Cd.region ?_
          refine Ops.q (q_mv rfl) ?_
          refine Ops.q (q_conv iK_5 iK_3 rfl (IntWalk.i64_in _ (by omega))) ?_
          refine Ops.q (q_mv rfl) ?_
          by_cases he : x3 = (k : Int)
          · refine Ops.q (q_cmp rfl rfl (c_eq he)) ?_
            have htj : tkS tks j = k := by rw [htk]; omega
            refine Ops.to rfl ?_
            refine Cd.cond_t rfl ?_
            refine Cd.seq ?_
            refine Cd.region ?_
            refine Ops.q (q_mv rfl) ?_
            refine Ops.q (q_mv rfl) ?_
            refine Ops.q (q_mv rfl) ?_
            refine Ops.cp en_39 rfl (fun w hs => at_c (k : Int) (j : Int) w) ?_
            refine Ops.lit [.int .i64 (k : Int), .int .i64 (j : Int)] el_27 zsb_88 rfl rfl ⟨by decide, by decide⟩ rfl ?_
            intro b7
            refine Ops.app (news := [.int .i64 (k : Int), .int .i64 (j : Int)]) el_27 zsb_88 (by decide) rfl rfl (fun _ hs => hs.ownRo .here) (fun _ hs => (hs.pull .here).drop) (fun _ _ => .here) rfl (one rfl) (by omega) (by omega) ?_
            intro a8 c9
            refine Ops.q (q_asg rfl) ?_
            refine Ops.to rfl ?_
            refine Cd.region ?_
            refine Ops.q (q_mv rfl) ?_
            refine Ops.q (q_mv rfl) ?_
            refine Ops.lit [.int .i64 (k : Int)] el_26 zsb_3 rfl rfl ⟨by decide, by decide⟩ rfl ?_
            intro b10
            refine Ops.app (news := [.int .i64 (k : Int)]) el_26 zsb_3 (by decide) rfl rfl (fun _ hs => hs.ownRo .here) (fun _ hs => (hs.pull .here).drop) (fun _ _ => (.there .here)) rfl (one rfl) (by omega) (by omega) ?_
            intro a11 c12
            refine Ops.q (q_asg rfl) ?_
            refine Ops.to rfl ?_
            refine Cd.region ?_
            refine Ops.q (q_ar rfl rfl (a_inc (by omega))) ?_
            refine Ops.q (q_mv rfl) ?_
            refine Ops.rnd ((j + 1, a8, c9, a11, c12)) rfl (by dsimp only; exact (by omega)) (by dsimp only; omega) ⟨rfl, rfl, (by (try dsimp only); rw [evP_yes htj, List.length_append]; rfl), (by (try dsimp only); rw [waP_yes htj, List.length_append]; rfl), rfl, rfl, rfl, rfl, rfl, trivial⟩ (fun _ hs => by have h1 := ((hs.pull (.there .here)).pull (.there .here)); (try dsimp only); rw [evP_yes htj, waP_yes htj, List.length_append, List.length_append, fm_app, fm_app]; exact h1) 
          · refine Ops.q (q_cmp rfl rfl (c_neq he)) ?_
            have htj : ¬ tkS tks j = k := by rw [htk]; omega
            refine Ops.to rfl ?_
            refine Cd.cond_f rfl ?_
            refine Cd.skipTo rfl ?_
            refine Cd.region ?_
            refine Ops.q (q_ar rfl rfl (a_inc (by omega))) ?_
            refine Ops.q (q_mv rfl) ?_
            refine Ops.rnd ((j + 1, fa, fc, ua, uc)) rfl (by dsimp only; exact (by omega)) (by dsimp only; omega) ⟨rfl, rfl, (by (try dsimp only); rw [evP_no htj]; rfl), (by (try dsimp only); rw [waP_no htj]; rfl), rfl, rfl, rfl, rfl, rfl, trivial⟩ (fun _ hs => by have h1 := ((hs.pull (.there .here)).pull (.there .here)); (try dsimp only); rw [evP_no htj, waP_no htj]; exact h1) 
        · refine Ops.q (q_cmp rfl rfl (c_nlt (by omega))) ?_
          refine Ops.to rfl ?_
          refine Cd.seq ?_
          refine Cd.cond_f rfl ?_
          refine Cd.exitTo rfl ?_
          refine Cd.region ?_
          refine Ops.q (q_ar rfl rfl (a_inc (by omega))) ?_
          refine Ops.q (q_mv rfl) ?_
          refine Ops.rnd ((k + 1, fa, fc, ua, uc)) rfl (by dsimp only; exact (by omega)) (by dsimp only; omega) ⟨rfl, rfl, (by (try dsimp only); rw [← evP_end, ← show j = tks.length from by omega]; rfl), (by (try dsimp only); rw [← waP_end, ← show j = tks.length from by omega]; rfl), rfl, trivial⟩ (fun _ hs => by have h1 := ((hs.pull (.there .here)).pull (.there .here)); have hj : j = tks.length := (by omega); rw [hj] at h1; (try dsimp only); rw [← evP_end, ← waP_end]; exact h1) 
      · refine Ops.q (q_cmp rfl rfl (c_nlt (by omega))) ?_
        have hk6 : k = 256 := by omega
        subst hk6
        refine Ops.to rfl ?_
        refine Cd.seq ?_
        refine Cd.cond_f rfl ?_
        refine Cd.exitTo rfl ?_
        refine Cd.seq ?_
        refine Cd.region ?_
        refine Ops.q (q_mv rfl) ?_
        refine Ops.cl (α := (Option Addr × Nat) × (Option Addr × Nat)) (v := fun x => .tuple [.agg [.slice x.1.1 (sortN tks.length).ns.length x.1.2, .int .i64 (sortN tks.length).inp, .slice x.2.1 (sortN tks.length).ss.length x.2.2].toArray, .int .i64 0].toArray) (B := fun x => [row x.1.1 x.1.2 116 8 (sortN tks.length).ns.length ((sortN tks.length).ns.flatMap ePrm), row x.2.1 x.2.2 126 4 (sortN tks.length).ss.length ((sortN tks.length).ss.flatMap eSyn)]) en_24 rfl (fun w hs => retR_ok (sort_c _ w) (sortP_ok hn)) ?_
        rintro ⟨⟨p, pc⟩, ⟨q, qc⟩⟩
        refine Ops.q (q_mv rfl) ?_
        refine Ops.q (q_ext rfl rfl) ?_
        refine Ops.q (q_ext rfl rfl) ?_
        refine Ops.alc [.slice none 0 0, .int .i64 0, .slice none 0 0] zc_32 ?_
        intro b13
        refine Ops.stB [.slice p ((sortN tks.length).ns.length) pc, .int .i64 ((sortN tks.length).inp), .slice q ((sortN tks.length).ss.length) qc] [.slice p ((sortN tks.length).ns.length) pc, .int .i64 ((sortN tks.length).inp), .slice q ((sortN tks.length).ss.length) qc] sz_32 rfl rfl rfl (one rfl) .here rfl rfl ?_
        refine Ops.q (q_asg rfl) ?_
        refine Ops.to rfl ?_
        refine Cd.seq ?_
        refine Cd.seq ?_
        refine Cd.region ?_
        refine Ops.q (q_mv rfl) ?_
        refine Ops.q (q_cmp rfl rfl (c_nne (by decide))) ?_
        refine Ops.q (q_mv rfl) ?_
        refine Ops.q (q_ldBN [.slice p ((sortN tks.length).ns.length) pc, .int .i64 ((sortN tks.length).inp), .slice q ((sortN tks.length).ss.length) qc] isA_32 sz_32 rfl .here rfl) ?_
        refine Ops.cp en_35 rfl (fun w hs => chk0 (check_c _ _ _ _ (sortN tks.length).ns (sortN tks.length).inp (sortN tks.length).ss w (hs.ownRo (.there .here)) (hs.ownRo (.there (.there .here)))) (sort_net (n := tks.length) (by omega))) ?_
        refine Ops.q (q_cmp rfl rfl (c_nne (by decide))) ?_
        refine Ops.q (q_pickF rfl rfl) ?_
        refine Ops.to rfl ?_
        refine Cd.cond_f rfl ?_
        refine Cd.skipTo rfl ?_
        refine Cd.seq ?_
        refine Cd.region ?_
        refine Ops.q (q_ldBN [.slice p ((sortN tks.length).ns.length) pc, .int .i64 ((sortN tks.length).inp), .slice q ((sortN tks.length).ss.length) qc] isA_32 sz_32 rfl .here rfl) ?_
        refine Ops.q (q_mv rfl) ?_
        refine Ops.cl (α := Option Addr × Nat) (v := fun p => .tuple [.slice p.1 (spkS tks.length (tkS tks)).length p.2, .int .i64 0].toArray) (B := fun p => [row p.1 p.2 88 2 (spkS tks.length (tkS tks)).length ((spkS tks.length (tkS tks)).flatMap eEvt)]) en_36 rfl (fun w hs => run_some _ _ _ _ (sortN tks.length).ns (sortN tks.length).inp (sortN tks.length).ss _ _ (evF (idlS tks.length (tkS tks)) 0 256) 300 w (hs.ownRo (.there .here)) (hs.ownRo (.there (.there .here))) (hs.ownRo (.there (.there (.there .here)))) (rowle_any hs (.there (.there (.there .here)))) (spkS tks.length (tkS tks)) (sort_prep (n := tks.length) (by omega) htl) (by rw [show (300 : Int).toNat = 300 from rfl]; exact (sort_runN hn htl).trans (by rw [sort_spikes htl]; rfl))) ?_
        rintro ⟨sa, sc⟩
        refine Ops.q (q_mv rfl) ?_
        refine Ops.q (q_ext rfl rfl) ?_
        refine Ops.q (q_ext rfl rfl) ?_
        refine Ops.q (q_asg rfl) ?_
        refine Ops.q (q_asg rfl) ?_
        refine Ops.to rfl ?_
        refine Cd.seq ?_
        refine Cd.seq ?_
        refine Cd.region ?_
        refine Ops.q (q_mv rfl) ?_
        refine Ops.q (q_cmp rfl rfl (c_nne (by decide))) ?_
        refine Ops.q (q_mv rfl) ?_
        refine Ops.q (q_mv rfl) ?_
        refine Ops.q (q_len esz_27 rfl) ?_
        refine Ops.q (q_mv rfl) ?_
        refine Ops.q (q_cmp rfl rfl (c_nne (by rw [spkS_len htl]))) ?_
        refine Ops.q (q_pickF rfl rfl) ?_
        refine Ops.to rfl ?_
        refine Cd.cond_f rfl ?_
        refine Cd.skipTo rfl ?_
        refine Cd.seq ?_
        refine Cd.seq ?_
        refine Cd.region ?_
        refine Ops.q (q_mv rfl) ?_
        refine Ops.q (q_len esz_27 rfl) ?_
        refine Ops.q (q_mv rfl) ?_
        refine Ops.to rfl ?_
        refine Cd.block ?_
        refine Cd.lp (σ := Nat) (fun j => j ≤ (spkS tks.length (tkS tks)).length) (fun j => [(5, .slice wa ((wantS tks.length (tkS tks) 256).length) wc), (75, .slice sa ((spkS tks.length (tkS tks)).length) sc), (76, .int .i64 ((spkS tks.length (tkS tks)).length : Int)), (77, .int .i64 (j : Int))]) (fun j => [row sa sc 88 2 ((spkS tks.length (tkS tks)).length) ((spkS tks.length (tkS tks)).flatMap eEvt), row wa wc 3 1 ((wantS tks.length (tkS tks) 256).length) ((wantS tks.length (tkS tks) 256).flatMap eInt)]) (fun j => (spkS tks.length (tkS tks)).length - j) 0 (Nat.zero_le _) ⟨rfl, rfl, rfl, rfl, trivial⟩ (fun _ hs => ((((((hs.pull (.there (.there (.there (.there (.there .here)))))).pull (.there .here)).pull (.there (.there .here))).drop.pull (.there (.there .here))).drop.pull (.there (.there .here))).drop.pull (.there (.there .here))).drop) ?_
        intro j hI
        refine Cd.seq ?_
        refine Cd.region ?_
        by_cases hj4 : (j : Int) < ((spkS tks.length (tkS tks)).length : Int)
        · refine Ops.q (q_cmp rfl rfl (c_lt hj4)) ?_
          have hsl := spkS_len htl
          have hwl : (wantS tks.length (tkS tks) 256).length = tks.length := by rw [wantS_len, cntS_all htl]
          obtain ⟨x14, hx15⟩ : ∃ x, (spkS tks.length (tkS tks))[j]? = some x := ⟨_, List.getElem?_eq_getElem (by omega)⟩
          refine Ops.rowpos .here (by omega) ?_
          rintro rb16 rfl
          obtain ⟨x17, hx18⟩ : ∃ x, (wantS tks.length (tkS tks) 256)[j]? = some x := ⟨_, List.getElem?_eq_getElem (by omega)⟩
          refine Ops.rowpos (.there .here) (by omega) ?_
          rintro rb19 rfl
          have hxv := spkS_get hx15 hx18
          have hvb := wantS_mem (List.mem_iff_getElem?.2 ⟨j, hx18⟩)
          refine Ops.to rfl ?_
          refine Cd.seq ?_
          refine Cd.cond_t rfl ?_
          refine Cd.skipTo rfl ?_
          refine Cd.seq ?_
          refine Cd.block ?_
          refine Cd.seq ?_
          refine Cd.region ?_
          refine Ops.q (q_mv rfl) ?_
          refine Ops.q (q_ix (k := j) esz_27 rfl rfl (by omega)) ?_
          refine Ops.q (q_ldON [.int .i64 x14.tick, .int .i64 x14.id] isA_88 sz_88 rfl .here (fm_atN eEvt_len hx15)) ?_
          refine Ops.alc [.int .i64 0, .int .i64 0] zc_88 ?_
          intro b20
          refine Ops.q (q_asg rfl) ?_
          refine Ops.stB [.int .i64 x14.tick, .int .i64 x14.id] [.int .i64 x14.tick, .int .i64 x14.id] sz_88 rfl rfl rfl (one rfl) .here rfl rfl ?_
          refine Ops.to rfl ?_
          refine Cd.seq ?_
          refine Cd.draw rfl (by kernel_rfl) (.cons .here (.cons (.there .here) .nil)) ?_
          intro F21 St22 hP23 hF24 hR25
          refine Dr.q (i := 0) hP23 rfl (by kernel_rfl) (q_ldBN [.int .i64 x14.tick, .int .i64 x14.id] isA_88 sz_88 rfl .here rfl) ?_
          refine Dr.q (i := 1) hP23 rfl (by kernel_rfl) (q_mv rfl) ?_
          refine Dr.q (i := 2) hP23 rfl (by kernel_rfl) (q_mv rfl) ?_
          refine Dr.q (i := 3) hP23 rfl (by kernel_rfl) (q_ix (k := j) esz_26 rfl rfl (by omega)) ?_
          refine Dr.q (i := 4) hP23 rfl (by kernel_rfl) (q_ldO isA_3 rfl (.there .here) (fm_at0 eInt_len hx18 rfl)) ?_
          refine Dr.q (i := 5) hP23 rfl (by kernel_rfl) (q_ar (v := x17 + 1) rfl rfl (a_add (by omega))) ?_
          refine Dr.q (i := 6) hP23 rfl (by kernel_rfl) (q_mv rfl) ?_
          refine Dr.e (i := 7) rfl (by kernel_rfl) ?_
          refine Ops.cp en_39 rfl (fun w hs => at_c (x17 + 1) (j : Int) w) ?_
          refine Dr.back (fun _ hs => hF24 .here hs) ?_
          refine Dr.q (i := 8) hP23 rfl (by kernel_rfl) (q_neF [x14.tick, x14.id] [x17 + 1, (j : Int)] intS_88 rfl rfl rfl rfl rfl (by rw [hxv])) ?_
          refine Dr.tail 9 (by kernel_rfl) ?_
          refine Ops.sat ?_ (fun _ hs => hR25 .here hs)
          refine Ops.to rfl ?_
          refine Cd.cond_f rfl ?_
          refine Cd.skipTo rfl ?_
          refine Cd.region ?_
          refine Ops.q (q_ar rfl rfl (a_inc (by omega))) ?_
          refine Ops.q (q_mv rfl) ?_
          refine Ops.rnd (j + 1) rfl (by omega) (by omega) ⟨rfl, rfl, rfl, rfl, trivial⟩ (fun _ hs => (((hs.pull (.there .here)).pull (.there (.there .here))).pull (.there (.there .here))).drop) 
        · refine Ops.q (q_cmp rfl rfl (c_nlt (by omega))) ?_
          refine Ops.to rfl ?_
          refine Cd.seq ?_
          refine Cd.cond_f rfl ?_
          refine Cd.exitTo rfl ?_
          refine Cd.seq ?_
          refine Cd.region ?_
          refine Ops.cp en_13 rfl (fun w hs => works_c w) ?_
          refine Ops.q (q_asg rfl) ?_
          refine Ops.to rfl ?_
          refine Cd.rt (fn := Try.f7) [.bool true] (by with_reducible repeat (first | exact rq_here | apply rq_then | apply rq_block)) rfl ⟨rfl, trivial⟩ ?_
          intro w' hs'
          exact ⟨rfl, hs'.none⟩
end Go.Proofs.Ytilcdghliigngaa
