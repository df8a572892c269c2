/- Part of a claim: the program logic, the contracts of the functions, their models. No condition. -/
import Derived.WalkKit
import Derived.OwnWalkIn
import Derived.TacticsInMore
import Derived.OrdersIn
import Derived.RangeFuncLeaves
import Derived.RangeFuncNested
import Derived.Maps.AppendAt
import Derived.Shelf.Abstract
import Derived.Test.YtilcdghliigngaaProg
import Derived.MapKept
import Derived.Laws.StructEq
import Derived.Laws.OwnMore
import Derived.RangeFuncRecord
import Derived.Lib.SliceRun
import Derived.Lib.AppendZeros
import Derived.Lib.AppendZerosOnto
import Derived.Lib.Overlaps
import Derived.Laws.Externs
import Derived.Test.YtilcdghliigngaaPe4
namespace Go.Proofs.Ytilcdghliigngaa
open Go.RowKit Go.Proofs.YtilcdghliigngaaGl Go.Proofs.YtilcdghliigngaaPm
set_option linter.unusedVariables false
set_option linter.unusedSimpArgs false
def shB (x : Int) (k : Nat) : Int := x.fdiv (2 ^ min k IntKind.u16.bits)
def anB (x : Int) (k : Nat) : Int := IntKind.u16.wrap ((BitVec.ofInt IntKind.u16.bits (shB x k) &&& BitVec.ofInt IntKind.u16.bits 1).toNat)
def bitsL (x : Int) (k : Nat) : List Int := ((List.range k).filter (fun i => decide (anB x i = 1))).map (fun i : Nat => (i : Int))
theorem bitsL_yes {x : Int} {k : Nat} (h : anB x k = 1) : bitsL x (k + 1) = bitsL x k ++ [(k : Int)] := by
  unfold bitsL; rw [List.range_succ, List.filter_append, List.map_append]; simp [h]
theorem bitsL_no {x : Int} {k : Nat} (h : ¬ anB x k = 1) : bitsL x (k + 1) = bitsL x k := by
  unfold bitsL; rw [List.range_succ, List.filter_append, List.map_append]; simp [h]
theorem bitsL_len (x : Int) (k : Nat) : (bitsL x k).length ≤ k := by
  unfold bitsL
  rw [List.length_map]
  have := List.length_filter_le (fun i => decide (anB x i = 1)) (List.range k)
  rwa [List.length_range] at this
def LstO (m : Nat) (l : List Int) : Prop := (∀ i ∈ l, 0 ≤ i ∧ i < (m : Int)) ∧ l.Pairwise (· < ·) ∧ l.length ≤ m
theorem bitsL_ok (x : Int) (k : Nat) : LstO k (bitsL x k) := by
  refine ⟨fun i hi => ?_, ?_, bitsL_len x k⟩
  · obtain ⟨j, hj, rfl⟩ := List.mem_map.1 hi
    have := List.mem_range.1 (List.mem_filter.1 hj).1
    omega
  · unfold bitsL
    rw [List.pairwise_map]
    exact (List.Pairwise.filter _ List.pairwise_lt_range).imp (fun h => by omega)
theorem LstO.set {m : Nat} {l : List Int} (h : LstO m l) : setE (m : Int) l = 0 := by
  unfold setE
  rw [if_pos (fun x hx => by have := h.1 x hx; unfold wi; omega), if_pos (show l.Nodup from h.2.1.imp (fun h => by omega))]
def PairO (m n : Nat) (p : List Int × List Int) : Prop := LstO m p.1 ∧ LstO n p.2
theorem memP_okO {m n : Nat} {ps : List (List Int × List Int)} (hm : 1 ≤ m ∧ m ≤ 16) (hn : 1 ≤ n ∧ n ≤ 16) (hl : ps.length ≤ 12) (h : ∀ p ∈ ps, PairO m n p) : memP (m : Int) (n : Int) ps = .ok (memN m n (togS ps)) := by
  unfold memP
  rw [if_pos ⟨by unfold wi; omega, by unfold wi; omega⟩, if_neg (by omega), if_neg]
  · rw [Int.toNat_natCast, Int.toNat_natCast]; rfl
  · rw [firstE_all (fun p hp => memE_0 (h p hp).1.set (h p hp).2.set)]; decide
def eP2 (p : Int × Int) : List Value := [.int .u16 p.1, .int .u16 p.2]
theorem eP2_len (p : Int × Int) : (eP2 p).length = 2 := rfl
def ansP (S : List (Int × Int)) (c : List Int) (j : Nat) : List Int := ((List.range j).filter (ansR S c)).map (fun d : Nat => (d : Int))
theorem ansP_yes {S : List (Int × Int)} {c : List Int} {j : Nat} (h : ansR S c j = true) : ansP S c (j + 1) = ansP S c j ++ [(j : Int)] := by
  unfold ansP; rw [List.range_succ, List.filter_append, List.map_append]; simp [h]
theorem ansP_no {S : List (Int × Int)} {c : List Int} {j : Nat} (h : ¬ ansR S c j = true) : ansP S c (j + 1) = ansP S c j := by
  unfold ansP; rw [List.range_succ, List.filter_append, List.map_append]; simp [h]
theorem ansP_len (S : List (Int × Int)) (c : List Int) (j : Nat) : (ansP S c j).length ≤ j := by
  unfold ansP
  rw [List.length_map]
  have := List.length_filter_le (ansR S c) (List.range j)
  rwa [List.length_range] at this
theorem ansP_mem {S : List (Int × Int)} {c : List Int} {n : Nat} {j : Int} (h0 : 0 ≤ j) (h1 : j < (n : Int)) (h : ∀ i ∈ c, (i, j) ∈ S) : j ∈ ansP S c n := by
  refine List.mem_map.2 ⟨j.toNat, List.mem_filter.2 ⟨List.mem_range.2 (by omega), ?_⟩, by omega⟩
  unfold ansR
  rw [List.all_eq_true]
  intro i hi
  rw [show ((j.toNat : Nat) : Int) = j by omega]
  simpa using h i hi
abbrev spkR (S : List (Int × Int)) (c : List Int) (n : Nat) : List Evt := (ansP S c n).map (fun i => (⟨8, i⟩ : Evt))
theorem all_step {α : Type} {p : α → Bool} {xs : List α} {k : Nat} {x : α} (h : xs[k]? = some x) : (xs.take (k + 1)).all p = ((xs.take k).all p && p x) := by
  rw [List.take_add_one, h, List.all_append]; simp
theorem run_some_n (na : Option Addr) (nc : Nat) (sa : Option Addr) (sc : Nat) (ns : List Prm) (ip : Int) (ss : List Syn) (ea : Option Addr) (ec : Nat) (evs : List Evt) (n : Nat) (hn : evs.length = n) (t : Int) (w : World) (hN : RoL w na ePrm ns) (hS : RoL w sa eSyn ss) (hE : RoL w ea eEvt evs) (hec : n ≤ ec) (out : List Evt) (hp : preparedE ⟨ns, ip, ss⟩ evs t 10000 = 0) (hr : runN ⟨ns, ip, ss⟩ evs t.toNat = some out) : Calls Try.prog 36 [.agg [.slice na ns.length nc, .int .i64 ip, .slice sa ss.length sc].toArray, .slice ea n ec, .int .i64 t].toArray w fun e w' => ∃ p : Option Addr × Nat, e = .returned (.tuple [.slice p.1 out.length p.2, .int .i64 0].toArray) ∧ Sat w w' [row p.1 p.2 88 2 out.length (out.flatMap eEvt)] := by
  subst hn; exact run_some na nc sa sc ns ip ss ea ec evs t w hN hS hE hec out hp hr
theorem chk0R {vs : Array Value} {w : World} {N : NetP} (h : Calls Try.prog 35 vs w fun e w' => e = .returned (.int .i64 (netCheck N)) ∧ Sat w w' []) (hz : netCheck N = 0) : Calls Try.prog 35 vs w fun e w' => e = .returned (.int .i64 0) ∧ Sat w w' [] := by
  rwa [hz] at h
theorem contains_c (xa : Option Addr) (xc : Nat) (xs : List Int) (y : Int) (w : World) (hX : RoL w xa eInt xs) (hl : xs.length ≤ 1000000) : Calls Try.prog 41 [.slice xa xs.length xc, .int .i64 y].toArray w fun e w' => e = .returned (.bool (decide (y ∈ xs))) ∧ Sat w w' [] := by
  refine fstart Try.func41 rfl rfl (Sat.nil w) ?_
  refine Cd.seq ?_
  refine Cd.region ?_
  refine Ops.q (q_asg rfl) ?_
  refine Ops.to rfl ?_
  refine Cd.seq ?_
  refine Cd.seq ?_
  refine Cd.region ?_
  refine Ops.q (q_mv rfl) ?_
  refine Ops.q (q_len esz_26 rfl) ?_
  refine Ops.q (q_mv rfl) ?_
  refine Ops.to rfl ?_
  refine Cd.block ?_
  refine Cd.lp (σ := Nat) (fun k => k ≤ xs.length ∧ ¬ y ∈ xs.take k) (fun k => [(1, .int .i64 y), (7, .slice xa xs.length xc), (8, .int .i64 (xs.length : Int)), (9, .int .i64 (k : Int))]) (fun k => []) (fun k => xs.length - k) 0 ⟨Nat.zero_le _, by simp⟩ ⟨rfl, rfl, rfl, rfl, trivial⟩ (fun _ hs => hs) ?_
  intro k hI
  have hI1 := hI.1
  refine Cd.seq ?_
  refine Cd.region ?_
  by_cases hk : (k : Int) < (xs.length : Int)
  · refine Ops.q (q_cmp rfl rfl (c_lt hk)) ?_
    obtain ⟨x1, hx2⟩ : ∃ x, xs[k]? = some x := ⟨_, List.getElem?_eq_getElem (by omega)⟩
    obtain ⟨ab3, ao4, rfl⟩ := RoL.pos hX eInt_len hx2
    refine Ops.to rfl ?_
    refine Cd.seq ?_
    refine Cd.cond_t rfl ?_
    refine Cd.skipTo rfl ?_
    refine Cd.seq ?_
    refine Cd.block ?_
    refine Cd.seq ?_
    refine Cd.region ?_
    refine Ops.q (q_ix (k := k) esz_26 rfl rfl (by omega)) ?_
    refine Ops.q (q_ldR isA_3 rfl (hX.at0 eInt_len hx2 rfl)) ?_
    refine Ops.q (q_asg rfl) ?_
    refine Ops.to rfl ?_
    refine Cd.seq ?_
    refine Cd.region ?_
    refine Ops.q (q_mv rfl) ?_
    refine Ops.q (q_mv rfl) ?_
    by_cases hq : x1 = y
    · refine Ops.q (q_cmp rfl rfl (c_eq hq)) ?_
      refine Ops.to rfl ?_
      refine Cd.cond_t rfl ?_
      refine Cd.seq ?_
      refine Cd.region ?_
      refine Ops.q (q_asg rfl) ?_
      refine Ops.to rfl ?_
      refine Cd.rt (fn := Try.f41) [.bool true] (by with_reducible repeat (first | exact rq_here | apply rq_then | apply rq_block)) rfl ⟨rfl, trivial⟩ ?_
      intro w' hs'
      exact ⟨ebool (by simpa using hq ▸ List.mem_iff_getElem?.2 ⟨k, hx2⟩), hs'.none⟩
    · refine Ops.q (q_cmp rfl rfl (c_neq hq)) ?_
      refine Ops.to rfl ?_
      refine Cd.cond_f rfl ?_
      refine Cd.skipTo rfl ?_
      refine Cd.region ?_
      refine Ops.q (q_ar rfl rfl (a_inc (by omega))) ?_
      refine Ops.q (q_mv rfl) ?_
      refine Ops.rnd (k + 1) rfl (⟨by omega, notmem_step hx2 hI.2 (fun e => hq e.symm)⟩) (by omega) ⟨rfl, rfl, rfl, rfl, trivial⟩ (fun _ hs => hs) 
  · refine Ops.q (q_cmp rfl rfl (c_nlt (by omega))) ?_
    refine Ops.to rfl ?_
    refine Cd.seq ?_
    refine Cd.cond_f rfl ?_
    refine Cd.exitTo rfl ?_
    refine Cd.seq ?_
    refine Cd.region ?_
    refine Ops.q (q_asg rfl) ?_
    refine Ops.to rfl ?_
    refine Cd.rt (fn := Try.f41) [.bool false] (by with_reducible repeat (first | exact rq_here | apply rq_then | apply rq_block)) rfl ⟨rfl, trivial⟩ ?_
    intro w' hs'
    exact ⟨ebool (by have h9 := hI.2; rw [List.take_of_length_le (by omega)] at h9; simpa using h9), hs'.none⟩
theorem bits_c (x : Int) (m : Nat) (w : World) (hm : m ≤ 1000) : Calls Try.prog 42 [.int .u16 x, .int .i64 (m : Int)].toArray w fun e w' => ∃ p : Option Addr × Nat, e = .returned (.slice p.1 (bitsL x m).length p.2) ∧ Sat w w' [row p.1 p.2 3 1 (bitsL x m).length ((bitsL x m).flatMap eInt)] := by
  refine fstart Try.func42 rfl rfl (Sat.nil w) ?_
  refine Cd.seq ?_
  refine Cd.region ?_
  refine Ops.q (q_asg rfl) ?_
  refine Ops.to rfl ?_
  refine Cd.seq ?_
  refine Cd.region ?_
  refine Ops.q (q_asg rfl) ?_
  refine Ops.to rfl ?_
  refine Cd.seq ?_
  refine Cd.seq ?_
  refine Cd.region ?_
  refine Ops.q (q_mv rfl) ?_
  refine Ops.q (q_mv rfl) ?_
  refine Ops.to rfl ?_
  refine Cd.block ?_
  refine Cd.lp (σ := Nat × Option Addr × Nat) (fun s => s.1 ≤ m) (fun s => [(0, .int .u16 x), (5, .slice s.2.1 ((bitsL x s.1).length) s.2.2), (7, .int .i64 (m : Int)), (8, .int .i64 (s.1 : Int))]) (fun s => [row s.2.1 s.2.2 3 1 ((bitsL x s.1).length) ((bitsL x s.1).flatMap eInt)]) (fun s => m - s.1) (0, none, 0) (Nat.zero_le _) ⟨rfl, rfl, rfl, rfl, trivial⟩ (fun _ hs => hs.nilRow 3 1) ?_
  rintro ⟨k, pa, pc⟩ hI
  dsimp only at hI
  change Cd _ _ _ _ _ _ _ [(0, .int .u16 x), (5, .slice pa ((bitsL x k).length) pc), (7, .int .i64 (m : Int)), (8, .int .i64 (k : Int))] ([row pa pc 3 1 ((bitsL x k).length) ((bitsL x k).flatMap eInt)])
  refine Cd.seq ?_
  refine Cd.region ?_
  by_cases hk : (k : Int) < (m : Int)
  · refine Ops.q (q_cmp rfl rfl (c_lt hk)) ?_
    have hbl := bitsL_len x k
    refine Ops.to rfl ?_
    refine Cd.seq ?_
    refine Cd.cond_t rfl ?_
    refine Cd.skipTo rfl ?_
    refine Cd.seq ?_
    refine Cd.block ?_
    refine Cd.seq ?_
    refine Cd.region ?_
    refine Ops.q (q_mv rfl) ?_
    refine Ops.q (q_asg rfl) ?_
    refine Ops.to rfl ?_
    refine Cd.seq ?_
    refine Cd.region ?_
    refine Ops.q (q_mv rfl) ?_
    refine Ops.q (q_mv rfl) ?_
    refine Ops.q (q_shr (v := shB x k) (j := k) rfl rfl rfl) ?_
    refine Ops.q (q_and (v := anB x k) rfl rfl rfl) ?_
    by_cases hb : anB x k = 1
    · refine Ops.q (q_cmp rfl rfl (c_eq hb)) ?_
      refine Ops.to rfl ?_
      refine Cd.cond_t rfl ?_
      refine Cd.region ?_
      refine Ops.q (q_mv rfl) ?_
      refine Ops.q (q_mv rfl) ?_
      refine Ops.lit [.int .i64 (k : Int)] el_26 zsb_3 rfl rfl ⟨by decide, by decide⟩ rfl ?_
      intro b1
      refine Ops.app (news := [.int .i64 (k : Int)]) el_26 zsb_3 (by decide) rfl rfl (fun _ hs => hs.ownRo .here) (fun _ hs => (hs.pull .here).drop) (fun _ _ => .here) rfl (one rfl) (by omega) (by omega) ?_
      intro a2 c3
      refine Ops.q (q_asg rfl) ?_
      refine Ops.to rfl ?_
      refine Cd.region ?_
      refine Ops.q (q_ar rfl rfl (a_inc (by omega))) ?_
      refine Ops.q (q_mv rfl) ?_
      refine Ops.rnd ((k + 1, a2, c3)) rfl (by dsimp only; exact (by omega)) (by dsimp only; omega) ⟨rfl, (by (try dsimp only); rw [bitsL_yes hb, List.length_append]; rfl), rfl, rfl, trivial⟩ (fun _ hs => by have h1 := (hs.pull .here); (try dsimp only); rw [bitsL_yes hb, List.length_append, fm_app]; exact h1) 
    · refine Ops.q (q_cmp rfl rfl (c_neq hb)) ?_
      refine Ops.to rfl ?_
      refine Cd.cond_f rfl ?_
      refine Cd.skipTo rfl ?_
      refine Cd.region ?_
      refine Ops.q (q_ar rfl rfl (a_inc (by omega))) ?_
      refine Ops.q (q_mv rfl) ?_
      refine Ops.rnd ((k + 1, pa, pc)) rfl (by dsimp only; exact (by omega)) (by dsimp only; omega) ⟨rfl, (by (try dsimp only); rw [bitsL_no hb]; rfl), rfl, rfl, trivial⟩ (fun _ hs => by have h1 := (hs.pull .here); (try dsimp only); rw [bitsL_no hb]; exact h1) 
  · refine Ops.q (q_cmp rfl rfl (c_nlt (by omega))) ?_
    refine Ops.to rfl ?_
    refine Cd.seq ?_
    refine Cd.cond_f rfl ?_
    refine Cd.exitTo rfl ?_
    refine Cd.seq ?_
    refine Cd.region ?_
    refine Ops.q (q_mv rfl) ?_
    refine Ops.q (q_asg rfl) ?_
    refine Ops.to rfl ?_
    refine Cd.rt (fn := Try.f42) [.slice pa ((bitsL x k).length) pc] (by with_reducible repeat (first | exact rq_here | apply rq_then | apply rq_block)) rfl ⟨rfl, trivial⟩ ?_
    intro w' hs'
    have hk9 : k = m := by omega
    subst hk9
    exact ⟨(pa, pc), rfl, hs'⟩
theorem recall_c (pa0 : Option Addr) (pc0 : Nat) (ps : List (Int × Int)) (cue ce an : Int) (w : World) (hP : RoL w pa0 eP2 ps) (hce : 0 ≤ ce ∧ ce ≤ 255) (han : 0 ≤ an ∧ an ≤ 255) : Calls Try.prog 10 [.slice pa0 ps.length pc0, .int .u16 cue, .int .u8 ce, .int .u8 an].toArray w fun e w' => e = .returned (.bool true) ∧ Sat w w' [] := by
  refine fstart Try.func10 rfl rfl (Sat.nil w) ?_
  refine Cd.seq ?_
  refine Cd.region ?_
  refine Ops.q (q_asg rfl) ?_
  refine Ops.to rfl ?_
  refine Cd.seq ?_
  refine Cd.seq ?_
  refine Cd.region ?_
  refine Ops.q (q_mv rfl) ?_
  refine Ops.q (q_len esz_100 rfl) ?_
  by_cases h1 : 12 < (ps.length : Int)
  · refine Ops.q (q_cmp rfl rfl (c_gt h1)) ?_
    refine Ops.to rfl ?_
    refine Cd.cond_t rfl ?_
    refine Cd.seq ?_
    refine Cd.region ?_
    refine Ops.cp en_13 rfl (fun w hs => works_c w) ?_
    refine Ops.q (q_asg rfl) ?_
    refine Ops.to rfl ?_
    refine Cd.rt (fn := Try.f10) [.bool true] (by with_reducible repeat (first | exact rq_here | apply rq_then | apply rq_block)) rfl ⟨rfl, trivial⟩ ?_
    intro w' hs'
    exact ⟨rfl, hs'.none⟩
  · refine Ops.q (q_cmp rfl rfl (c_ngt (by omega))) ?_
    refine Ops.to rfl ?_
    refine Cd.cond_f rfl ?_
    refine Cd.skipTo rfl ?_
    refine Cd.seq ?_
    refine Cd.region ?_
    refine Ops.q (q_mv rfl) ?_
    refine Ops.q (q_conv iK_5 iK_3 rfl (IntWalk.i64_in _ (by omega))) ?_
    refine Ops.q (q_ar rfl rfl (a_rem (by omega) (by omega))) ?_
    refine Ops.q (q_ar (v := 1 + (ce % 16)) rfl rfl (a_add (by omega))) ?_
    refine Ops.q (q_mv rfl) ?_
    refine Ops.q (q_conv iK_5 iK_3 rfl (IntWalk.i64_in _ (by omega))) ?_
    refine Ops.q (q_ar rfl rfl (a_rem (by omega) (by omega))) ?_
    refine Ops.q (q_ar (v := 1 + (an % 16)) rfl rfl (a_add (by omega))) ?_
    refine Ops.q (q_asg rfl) ?_
    refine Ops.q (q_asg rfl) ?_
    refine Ops.to rfl ?_
    refine Cd.seq ?_
    refine Cd.region ?_
    obtain ⟨m, hmE⟩ : ∃ m : Nat, 1 + (ce % 16) = (m : Int) := ⟨(1 + ce % 16).toNat, by omega⟩
    obtain ⟨n, hnE⟩ : ∃ n : Nat, 1 + (an % 16) = (n : Int) := ⟨(1 + an % 16).toNat, by omega⟩
    rw [hmE, hnE]
    have hm : 1 ≤ m ∧ m ≤ 16 := by omega
    have hn : 1 ≤ n ∧ n ≤ 16 := by omega
    refine Ops.q (q_asg rfl) ?_
    refine Ops.to rfl ?_
    refine Cd.seq ?_
    refine Cd.region ?_
    refine Ops.q (q_asg rfl) ?_
    refine Ops.to rfl ?_
    refine Cd.seq ?_
    refine Cd.seq ?_
    refine Cd.region ?_
    refine Ops.q (q_mv rfl) ?_
    refine Ops.q (q_len esz_100 rfl) ?_
    refine Ops.q (q_mv rfl) ?_
    refine Ops.to rfl ?_
    refine Cd.block ?_
    refine Cd.lp (σ := Nat × List PR × Option Addr × Nat) (fun s => s.1 ≤ ps.length ∧ s.2.1.length = s.1 ∧ ∀ p ∈ s.2.1.map prP, PairO m n p) (fun s => [(1, .int .u16 cue), (9, .int .i64 (m : Int)), (10, .int .i64 (n : Int)), (11, .func (.func 42) #[] #[]), (0, .slice pa0 ps.length pc0), (12, .slice s.2.2.1 s.2.1.length s.2.2.2), (52, .slice pa0 ps.length pc0), (53, .int .i64 (ps.length : Int)), (54, .int .i64 (s.1 : Int))]) (fun s => [row s.2.2.1 s.2.2.2 61 2 s.2.1.length (s.2.1.flatMap ePr), rd (prR s.2.1)]) (fun s => ps.length - s.1) (0, [], none, 0) ⟨Nat.zero_le _, rfl, by simp⟩ ⟨rfl, rfl, rfl, rfl, rfl, rfl, rfl, rfl, rfl, trivial⟩ (fun _ hs => Sat.nilRow (rdNew (φ := prR []) hs (by intro w l hl; cases hl)) 61 2) ?_
    rintro ⟨k, pz, qa, qc⟩ hI
    dsimp only at hI
    change Cd _ _ _ _ _ _ _ [(1, .int .u16 cue), (9, .int .i64 (m : Int)), (10, .int .i64 (n : Int)), (11, .func (.func 42) #[] #[]), (0, .slice pa0 ps.length pc0), (12, .slice qa pz.length qc), (52, .slice pa0 ps.length pc0), (53, .int .i64 (ps.length : Int)), (54, .int .i64 (k : Int))] ([row qa qc 61 2 pz.length (pz.flatMap ePr), rd (prR pz)])
    have hI1 := hI.1
    have hlz := hI.2.1
    refine Cd.seq ?_
    refine Cd.region ?_
    by_cases hk : (k : Int) < (ps.length : Int)
    · refine Ops.q (q_cmp rfl rfl (c_lt hk)) ?_
      obtain ⟨x2, hx3⟩ : ∃ x, ps[k]? = some x := ⟨_, List.getElem?_eq_getElem (by omega)⟩
      obtain ⟨ab4, ao5, rfl⟩ := RoL.pos hP eP2_len hx3
      refine Ops.to rfl ?_
      refine Cd.seq ?_
      refine Cd.cond_t rfl ?_
      refine Cd.skipTo rfl ?_
      refine Cd.seq ?_
      refine Cd.block ?_
      refine Cd.seq ?_
      refine Cd.region ?_
      refine Ops.q (q_ix (k := k) esz_100 rfl rfl (by omega)) ?_
      refine Ops.q (q_ldRN [.int .u16 x2.1, .int .u16 x2.2] isA_103 sz_103 rfl (fun j u hu => hP.at eP2_len hx3 hu)) ?_
      refine Ops.alc [.int .u16 0, .int .u16 0] zc_103 ?_
      intro b6
      refine Ops.stB [.int .u16 x2.1, .int .u16 x2.2] [.int .u16 x2.1, .int .u16 x2.2] sz_103 rfl rfl rfl (one rfl) .here rfl rfl ?_
      refine Ops.to rfl ?_
      refine Cd.draw rfl (by kernel_rfl) (.cons .here .nil) ?_
      intro F7 St8 hP9 hF10 hR11
      refine Dr.q (i := 0) hP9 rfl (by kernel_rfl) (q_mv rfl) ?_
      refine Dr.q (i := 1) hP9 rfl (by kernel_rfl) (q_mv rfl) ?_
      refine Dr.q (i := 2) hP9 rfl (by kernel_rfl) (q_ixA (k := 0) asz_103 rfl rfl (by decide)) ?_
      refine Dr.q (i := 3) hP9 rfl (by kernel_rfl) (q_ldB isA_101 rfl .here rfl) ?_
      refine Dr.q (i := 4) hP9 rfl (by kernel_rfl) (q_mv rfl) ?_
      refine Dr.q (i := 6) hP9 rfl (by kernel_rfl) (q_mv rfl) ?_
      refine Dr.q (i := 7) hP9 rfl (by kernel_rfl) (q_ixA (k := 1) asz_103 rfl rfl (by decide)) ?_
      refine Dr.q (i := 8) hP9 rfl (by kernel_rfl) (q_ldB isA_101 rfl .here rfl) ?_
      refine Dr.q (i := 9) hP9 rfl (by kernel_rfl) (q_mv rfl) ?_
      refine Dr.e (i := 5) rfl (by kernel_rfl) ?_
      refine Ops.cv (α := Option Addr × Nat) (k := 42) (first := []) (caps := []) (vs := [.int .u16 x2.1, .int .i64 (m : Int)]) (v := fun z9 => .slice z9.1 (bitsL x2.1 m).length z9.2) (A' := fun z9 => [row z9.1 z9.2 3 1 ((bitsL x2.1 m).length) ((bitsL x2.1 m).flatMap eInt), F7, row qa qc 61 2 pz.length (pz.flatMap ePr), rd (prR pz)]) en_42 rfl rfl (fun w hs => (bits_c x2.1 m w (by omega)).mono fun e w' h => by obtain ⟨p, h1, h2⟩ := h; exact ⟨p, h1, hs.over h2⟩) ?_
      rintro ⟨ba12, bc13⟩
      refine Dr.back (fun _ hs => hF10 (.there .here) hs) ?_
      refine Dr.e (i := 10) rfl (by kernel_rfl) ?_
      refine Ops.cv (α := Option Addr × Nat) (k := 42) (first := []) (caps := []) (vs := [.int .u16 x2.2, .int .i64 (n : Int)]) (v := fun z9 => .slice z9.1 (bitsL x2.2 n).length z9.2) (A' := fun z9 => [row z9.1 z9.2 3 1 ((bitsL x2.2 n).length) ((bitsL x2.2 n).flatMap eInt), row ba12 bc13 3 1 ((bitsL x2.1 m).length) ((bitsL x2.1 m).flatMap eInt), F7, row qa qc 61 2 pz.length (pz.flatMap ePr), rd (prR pz)]) en_42 rfl rfl (fun w hs => (bits_c x2.2 n w (by omega)).mono fun e w' h => by obtain ⟨p, h1, h2⟩ := h; exact ⟨p, h1, hs.over h2⟩) ?_
      rintro ⟨ba14, bc15⟩
      refine Dr.back (fun _ hs => hF10 (.there (.there .here)) hs) ?_
      refine Dr.q (i := 11) hP9 rfl (by kernel_rfl) (q_bld [.slice ba12 ((bitsL x2.1 m).length) bc13, .slice ba14 ((bitsL x2.2 n).length) bc15] pls_61 zc_61 rfl rfl) ?_
      refine Dr.e (i := 12) rfl (by kernel_rfl) ?_
      refine Ops.lit [.slice ba12 ((bitsL x2.1 m).length) bc13, .slice ba14 ((bitsL x2.2 n).length) bc15] el_58 zsb_61 rfl rfl ⟨by decide, by decide⟩ rfl ?_
      intro b16
      refine Dr.back (fun _ hs => hF10 (.there (.there (.there .here))) hs) ?_
      refine Dr.e (i := 13) rfl (by kernel_rfl) ?_
      refine Ops.app (news := [.slice ba12 ((bitsL x2.1 m).length) bc13, .slice ba14 ((bitsL x2.2 n).length) bc15]) el_58 zsb_61 (by decide) rfl rfl (fun _ hs => hs.ownRo .here) (fun _ hs => (hs.pull .here).drop) (fun _ _ => (.there (.there (.there .here)))) rfl (one rfl) (by omega) (by omega) ?_
      intro a17 c18
      refine Dr.back (fun _ hs => hF10 (.there (.there .here)) hs) ?_
      refine Dr.tail 14 (by kernel_rfl) ?_
      refine Ops.sat ?_ (fun _ hs => hR11 (.there (.there .here)) hs)
      refine Ops.q (q_asg rfl) ?_
      refine Ops.to rfl ?_
      refine Cd.region ?_
      refine Ops.q (q_ar rfl rfl (a_inc (by omega))) ?_
      refine Ops.q (q_mv rfl) ?_
      refine Ops.rnd ((k + 1, pz ++ [(((ba12, bc13), bitsL x2.1 m), ((ba14, bc15), bitsL x2.2 n))], a17, c18)) rfl (by dsimp only; exact (⟨by omega, by rw [List.length_append, hI.2.1]; rfl, by intro p hp; rw [List.map_append] at hp; rcases List.mem_append.1 hp with hp | hp; exact hI.2.2 p hp; obtain rfl := List.mem_singleton.1 hp; exact ⟨bitsL_ok _ _, bitsL_ok _ _⟩⟩)) (by dsimp only; omega) ⟨rfl, rfl, rfl, rfl, rfl, (by (try dsimp only); rw [List.length_append]; rfl), rfl, rfl, rfl, trivial⟩ (fun _ hs => by have h1 := (((((hs.pull (.there (.there (.there .here)))).pull (.there (.there .here))).pull (.there (.there (.there .here)))).pull (.there (.there (.there (.there .here))))).pull (.there (.there (.there (.there .here))))).drop; have h2 := rdGrow (rdGrow (φ' := fun w => prR pz w ∧ Ro w ba12 ((bitsL x2.1 m).flatMap eInt)) h1 (fun w p q => ⟨p, q⟩)) (fun w p q => prR_grow (c := bc13) (d := bc15) w p q); (try dsimp only); rw [fm_app, List.length_append]; exact h2.pull (.there .here)) 
    · refine Ops.q (q_cmp rfl rfl (c_nlt (by omega))) ?_
      have hpO := hI.2.2
      have hpl : pz.length ≤ 12 := by omega
      have hpP : ∀ l ∈ pz, PairO m n (prP l) := fun l hl => hpO _ (List.mem_map_of_mem hl)
      have hpb : ∀ l ∈ pz, l.1.2.length ≤ 1000000 ∧ l.2.2.length ≤ 1000000 := fun l hl => by have h1 : l.1.2.length ≤ m := (hpP l hl).1.2.2; have h2 : l.2.2.length ≤ n := (hpP l hl).2.2.2; exact ⟨by omega, by omega⟩
      have hC := bitsL_ok cue m
      have hCl : (bitsL cue m).length ≤ 16 := by have := hC.2.2; omega
      have hal : (ansP (togS (pz.map prP)) (bitsL cue m) n).length ≤ 16 := by have := ansP_len (togS (pz.map prP)) (bitsL cue m) n; omega
      refine Ops.to rfl ?_
      refine Cd.seq ?_
      refine Cd.cond_f rfl ?_
      refine Cd.exitTo rfl ?_
      refine Cd.seq ?_
      refine Cd.region ?_
      refine Ops.q (q_mv rfl) ?_
      refine Ops.q (q_mv rfl) ?_
      refine Ops.q (q_mv rfl) ?_
      refine Ops.cl (α := (Option Addr × Nat) × (Option Addr × Nat)) (v := fun x => .tuple [.agg [.slice x.1.1 (memN m n (togS (pz.map prP))).ns.length x.1.2, .int .i64 (memN m n (togS (pz.map prP))).inp, .slice x.2.1 (memN m n (togS (pz.map prP))).ss.length x.2.2].toArray, .int .i64 0].toArray) (B := fun x => [row x.1.1 x.1.2 116 8 (memN m n (togS (pz.map prP))).ns.length ((memN m n (togS (pz.map prP))).ns.flatMap ePrm), row x.2.1 x.2.2 126 4 (memN m n (togS (pz.map prP))).ss.length ((memN m n (togS (pz.map prP))).ss.flatMap eSyn)]) en_28 rfl (fun w hs => retR_ok (memory_c _ _ _ _ pz w ⟨hs.ownRo .here, (hs.read (.there .here))⟩ hpb) (memP_okO hm hn (by rw [List.length_map]; exact hpl) hpO)) ?_
      rintro ⟨⟨p, pc⟩, ⟨q, qc2⟩⟩
      refine Ops.q (q_mv rfl) ?_
      refine Ops.q (q_ext rfl rfl) ?_
      refine Ops.q (q_ext rfl rfl) ?_
      refine Ops.alc [.slice none 0 0, .int .i64 0, .slice none 0 0] zc_32 ?_
      intro b19
      refine Ops.stB [.slice p ((memN m n (togS (pz.map prP))).ns.length) pc, .int .i64 ((memN m n (togS (pz.map prP))).inp), .slice q ((memN m n (togS (pz.map prP))).ss.length) qc2] [.slice p ((memN m n (togS (pz.map prP))).ns.length) pc, .int .i64 ((memN m n (togS (pz.map prP))).inp), .slice q ((memN m n (togS (pz.map prP))).ss.length) qc2] sz_32 rfl rfl rfl (one rfl) .here rfl rfl ?_
      refine Ops.q (q_asg rfl) ?_
      refine Ops.to rfl ?_
      refine Cd.seq ?_
      refine Cd.seq ?_
      refine Cd.region ?_
      refine Ops.q (q_mv rfl) ?_
      refine Ops.q (q_cmp rfl rfl (c_nne (by decide))) ?_
      refine Ops.q (q_mv rfl) ?_
      refine Ops.q (q_ldBN [.slice p ((memN m n (togS (pz.map prP))).ns.length) pc, .int .i64 ((memN m n (togS (pz.map prP))).inp), .slice q ((memN m n (togS (pz.map prP))).ss.length) qc2] isA_32 sz_32 rfl .here rfl) ?_
      refine Ops.cp en_35 rfl (fun w hs => chk0R (check_c _ _ _ _ (memN m n (togS (pz.map prP))).ns (memN m n (togS (pz.map prP))).inp (memN m n (togS (pz.map prP))).ss w (hs.ownRo (.there .here)) (hs.ownRo (.there (.there .here)))) (mem_net hm hn)) ?_
      refine Ops.q (q_cmp rfl rfl (c_nne (by decide))) ?_
      refine Ops.q (q_pickF rfl rfl) ?_
      refine Ops.to rfl ?_
      refine Cd.cond_f rfl ?_
      refine Cd.skipTo rfl ?_
      refine Cd.seq ?_
      refine Cd.region ?_
      refine Ops.q (q_asg rfl) ?_
      refine Ops.to rfl ?_
      refine Cd.seq ?_
      refine Cd.region ?_
      refine Ops.q (q_mv rfl) ?_
      refine Ops.q (q_mv rfl) ?_
      refine Ops.q (q_mv rfl) ?_
      refine Ops.cv (α := Option Addr × Nat) (k := 42) (first := []) (caps := []) (vs := [.int .u16 cue, .int .i64 (m : Int)]) (v := fun z9 => .slice z9.1 (bitsL cue m).length z9.2) (A' := fun z9 => [row z9.1 z9.2 3 1 ((bitsL cue m).length) ((bitsL cue m).flatMap eInt), blk b19 32 [.slice p ((memN m n (togS (pz.map prP))).ns.length) pc, .int .i64 ((memN m n (togS (pz.map prP))).inp), .slice q ((memN m n (togS (pz.map prP))).ss.length) qc2], row p pc 116 8 ((memN m n (togS (pz.map prP))).ns.length) ((memN m n (togS (pz.map prP))).ns.flatMap ePrm), row q qc2 126 4 ((memN m n (togS (pz.map prP))).ss.length) ((memN m n (togS (pz.map prP))).ss.flatMap eSyn), row qa qc 61 2 pz.length (pz.flatMap ePr), rd (prR pz)]) en_42 rfl rfl (fun w hs => (bits_c cue m w (by omega)).mono fun e w' h => by obtain ⟨p, h1, h2⟩ := h; exact ⟨p, h1, hs.over h2⟩) ?_
      rintro ⟨ba20, bc21⟩
      refine Ops.q (q_asg rfl) ?_
      refine Ops.to rfl ?_
      refine Cd.seq ?_
      refine Cd.seq ?_
      refine Cd.region ?_
      refine Ops.q (q_mv rfl) ?_
      refine Ops.q (q_len esz_26 rfl) ?_
      refine Ops.q (q_mv rfl) ?_
      refine Ops.to rfl ?_
      refine Cd.block ?_
      refine Cd.lp (σ := Nat × Option Addr × Nat) (fun s => s.1 ≤ (bitsL cue m).length) (fun s => [(1, .int .u16 cue), (9, .int .i64 (m : Int)), (10, .int .i64 (n : Int)), (11, .func (.func 42) #[] #[]), (12, .slice qa pz.length qc), (15, .pointer (some ⟨b19, 0, none⟩)), (18, .slice ba20 ((bitsL cue m).length) bc21), (91, .slice ba20 ((bitsL cue m).length) bc21), (92, .int .i64 ((bitsL cue m).length : Int)), (17, .slice s.2.1 s.1 s.2.2), (93, .int .i64 (s.1 : Int))]) (fun s => [row s.2.1 s.2.2 88 2 s.1 ((((bitsL cue m).take s.1).map (fun i => (⟨7, i⟩ : Evt))).flatMap eEvt), row ba20 bc21 3 1 ((bitsL cue m).length) ((bitsL cue m).flatMap eInt), row qa qc 61 2 pz.length (pz.flatMap ePr), rd (prR pz), row p pc 116 8 ((memN m n (togS (pz.map prP))).ns.length) ((memN m n (togS (pz.map prP))).ns.flatMap ePrm), row q qc2 126 4 ((memN m n (togS (pz.map prP))).ss.length) ((memN m n (togS (pz.map prP))).ss.flatMap eSyn), blk b19 32 [.slice p ((memN m n (togS (pz.map prP))).ns.length) pc, .int .i64 ((memN m n (togS (pz.map prP))).inp), .slice q ((memN m n (togS (pz.map prP))).ss.length) qc2]]) (fun s => (bitsL cue m).length - s.1) (0, none, 0) (Nat.zero_le _) ⟨rfl, rfl, rfl, rfl, rfl, rfl, rfl, rfl, rfl, rfl, rfl, trivial⟩ (fun _ hs => by have h1 := (((((((hs.pull (.there .here)).pull (.there (.there (.there .here)))).pull (.there (.there (.there .here)))).pull (.there (.there (.there (.there (.there .here)))))).pull (.there (.there (.there (.there (.there .here)))))).pull (.there (.there (.there (.there (.there .here))))))).nilRow 88 2; exact h1) ?_
      rintro ⟨k, ea, ec⟩ hI
      dsimp only at hI
      change Cd _ _ _ _ _ _ _ [(1, .int .u16 cue), (9, .int .i64 (m : Int)), (10, .int .i64 (n : Int)), (11, .func (.func 42) #[] #[]), (12, .slice qa pz.length qc), (15, .pointer (some ⟨b19, 0, none⟩)), (18, .slice ba20 ((bitsL cue m).length) bc21), (91, .slice ba20 ((bitsL cue m).length) bc21), (92, .int .i64 ((bitsL cue m).length : Int)), (17, .slice ea k ec), (93, .int .i64 (k : Int))] ([row ea ec 88 2 k ((((bitsL cue m).take k).map (fun i => (⟨7, i⟩ : Evt))).flatMap eEvt), row ba20 bc21 3 1 ((bitsL cue m).length) ((bitsL cue m).flatMap eInt), row qa qc 61 2 pz.length (pz.flatMap ePr), rd (prR pz), row p pc 116 8 ((memN m n (togS (pz.map prP))).ns.length) ((memN m n (togS (pz.map prP))).ns.flatMap ePrm), row q qc2 126 4 ((memN m n (togS (pz.map prP))).ss.length) ((memN m n (togS (pz.map prP))).ss.flatMap eSyn), blk b19 32 [.slice p ((memN m n (togS (pz.map prP))).ns.length) pc, .int .i64 ((memN m n (togS (pz.map prP))).inp), .slice q ((memN m n (togS (pz.map prP))).ss.length) qc2]])
      refine Cd.seq ?_
      refine Cd.region ?_
      by_cases hk : (k : Int) < ((bitsL cue m).length : Int)
      · refine Ops.q (q_cmp rfl rfl (c_lt hk)) ?_
        obtain ⟨x22, hx23⟩ : ∃ x, (bitsL cue m)[k]? = some x := ⟨_, List.getElem?_eq_getElem (by omega)⟩
        refine Ops.rowpos (.there .here) (by omega) ?_
        rintro rb24 rfl
        refine Ops.to rfl ?_
        refine Cd.seq ?_
        refine Cd.cond_t rfl ?_
        refine Cd.skipTo rfl ?_
        refine Cd.seq ?_
        refine Cd.block ?_
        refine Cd.seq ?_
        refine Cd.region ?_
        refine Ops.q (q_ix (k := k) esz_26 rfl rfl (by omega)) ?_
        refine Ops.q (q_ldO isA_3 rfl (.there .here) (fm_at0 eInt_len hx23 rfl)) ?_
        refine Ops.q (q_asg rfl) ?_
        refine Ops.to rfl ?_
        refine Cd.region ?_
        refine Ops.q (q_mv rfl) ?_
        refine Ops.q (q_mv rfl) ?_
        refine Ops.cp en_39 rfl (fun w hs => at_c 7 x22 w) ?_
        refine Ops.lit [.int .i64 7, .int .i64 x22] el_27 zsb_88 rfl rfl ⟨by decide, by decide⟩ rfl ?_
        intro b25
        refine Ops.app (news := [.int .i64 7, .int .i64 x22]) el_27 zsb_88 (by decide) rfl rfl (fun _ hs => hs.ownRo .here) (fun _ hs => (hs.pull .here).drop) (fun _ _ => .here) rfl (one rfl) (by omega) (by omega) ?_
        intro a26 c27
        refine Ops.q (q_asg rfl) ?_
        refine Ops.to rfl ?_
        refine Cd.region ?_
        refine Ops.q (q_ar rfl rfl (a_inc (by omega))) ?_
        refine Ops.q (q_mv rfl) ?_
        refine Ops.rnd ((k + 1, a26, c27)) rfl (by dsimp only; exact (by omega)) (by dsimp only; omega) ⟨rfl, rfl, rfl, rfl, rfl, rfl, rfl, rfl, rfl, rfl, rfl, trivial⟩ (fun _ hs => by have h1 := (((((((hs.pull (.there (.there (.there (.there (.there (.there .here))))))).pull (.there (.there (.there (.there (.there (.there .here))))))).pull (.there (.there (.there (.there (.there (.there .here))))))).pull (.there (.there (.there (.there (.there (.there .here))))))).pull (.there (.there (.there (.there (.there (.there .here))))))).pull (.there (.there (.there (.there (.there (.there .here))))))).pull (.there (.there (.there (.there (.there (.there .here))))))); (try dsimp only); rw [mapT _ hx23, fm_app]; exact h1) 
      · refine Ops.q (q_cmp rfl rfl (c_nlt (by omega))) ?_
        have hk9 : k = (bitsL cue m).length := by omega
        refine Ops.to rfl ?_
        refine Cd.seq ?_
        refine Cd.cond_f rfl ?_
        refine Cd.exitTo rfl ?_
        refine Cd.seq ?_
        refine Cd.draw rfl (by kernel_rfl) (.cons (.there (.there (.there (.there (.there (.there .here)))))) .nil) ?_
        intro F28 St29 hP30 hF31 hR32
        refine Dr.q (i := 0) hP30 rfl (by kernel_rfl) (q_ldBN [.slice p ((memN m n (togS (pz.map prP))).ns.length) pc, .int .i64 ((memN m n (togS (pz.map prP))).inp), .slice q ((memN m n (togS (pz.map prP))).ss.length) qc2] isA_32 sz_32 rfl .here rfl) ?_
        refine Dr.q (i := 1) hP30 rfl (by kernel_rfl) (q_mv rfl) ?_
        refine Dr.q (i := 2) hP30 rfl (by kernel_rfl) (q_mv rfl) ?_
        refine Dr.e (i := 3) rfl (by kernel_rfl) ?_
        refine Ops.cp en_39 rfl (fun w hs => at_c 7 (m : Int) w) ?_
        refine Dr.back (fun _ hs => hF31 .here hs) ?_
        refine Dr.e (i := 4) rfl (by kernel_rfl) ?_
        refine Ops.lit [.int .i64 7, .int .i64 (m : Int)] el_27 zsb_88 rfl rfl ⟨by decide, by decide⟩ rfl ?_
        intro b33
        refine Dr.back (fun _ hs => hF31 (.there .here) hs) ?_
        refine Dr.e (i := 5) rfl (by kernel_rfl) ?_
        refine Ops.app (news := [.int .i64 7, .int .i64 (m : Int)]) el_27 zsb_88 (by decide) rfl rfl (fun _ hs => hs.ownRo .here) (fun _ hs => (hs.pull .here).drop) (fun _ _ => (.there .here)) rfl (one rfl) (by omega) (by omega) ?_
        intro a34 c35
        refine Dr.back (fun _ hs => hF31 .here hs) ?_
        refine Dr.e (i := 6) rfl (by kernel_rfl) ?_
        refine Ops.cl (α := Option Addr × Nat) (v := fun p => .tuple [.slice p.1 (spkR (togS (pz.map prP)) (bitsL cue m) n).length p.2, .int .i64 0].toArray) (B := fun p => [row p.1 p.2 88 2 (spkR (togS (pz.map prP)) (bitsL cue m) n).length ((spkR (togS (pz.map prP)) (bitsL cue m) n).flatMap eEvt)]) en_36 rfl (fun w hs => run_some_n _ _ _ _ (memN m n (togS (pz.map prP))).ns (memN m n (togS (pz.map prP))).inp (memN m n (togS (pz.map prP))).ss _ _ (((bitsL cue m) ++ [(m : Int)]).map (fun i => (⟨7, i⟩ : Evt))) (k + 1) (by rw [List.length_map, List.length_append, hk9]; rfl) 12 w (hs.ownRo (.there (.there (.there (.there (.there .here)))))) (hs.ownRo (.there (.there (.there (.there (.there (.there .here))))))) (by have h1 := hs.ownRo (.there .here); rw [List.take_of_length_le (show (bitsL cue m).length ≤ k by omega)] at h1; unfold RoL; rw [List.map_append, fm_app]; exact h1) (rowle_any hs (.there .here)) (spkR (togS (pz.map prP)) (bitsL cue m) n) (rec_prep hm hn hC.1 hC.2.1 (by have := hC.2.2; omega)) (by rw [show (12 : Int).toNat = 12 from rfl, rec_runN hm hn hC.1 hC.2.1]; unfold spkR ansP; rw [List.map_map]; rfl)) ?_
        rintro ⟨sa, sc⟩
        refine Dr.back (fun _ hs => hF31 (.there .here) hs) ?_
        refine Dr.q (i := 7) hP30 rfl (by kernel_rfl) (q_mv rfl) ?_
        refine Dr.q (i := 8) hP30 rfl (by kernel_rfl) (q_ext rfl rfl) ?_
        refine Dr.q (i := 9) hP30 rfl (by kernel_rfl) (q_ext rfl rfl) ?_
        refine Dr.q (i := 10) hP30 rfl (by kernel_rfl) (q_asg rfl) ?_
        refine Dr.tail 11 (by kernel_rfl) ?_
        refine Ops.sat ?_ (fun _ hs => hR32 (.there .here) hs)
        refine Ops.q (q_asg rfl) ?_
        refine Ops.to rfl ?_
        refine Cd.seq ?_
        refine Cd.seq ?_
        refine Cd.region ?_
        refine Ops.q (q_mv rfl) ?_
        refine Ops.q (q_cmp rfl rfl (c_nne (by decide))) ?_
        refine Ops.to rfl ?_
        refine Cd.cond_f rfl ?_
        refine Cd.skipTo rfl ?_
        refine Cd.seq ?_
        refine Cd.region ?_
        refine Ops.q (q_asg rfl) ?_
        refine Ops.to rfl ?_
        refine Cd.seq ?_
        refine Cd.seq ?_
        refine Cd.region ?_
        refine Ops.q (q_mv rfl) ?_
        refine Ops.q (q_len esz_27 rfl) ?_
        refine Ops.q (q_mv rfl) ?_
        refine Ops.to rfl ?_
        refine Cd.block ?_
        refine Cd.lp (σ := Nat × Option Addr × Nat) (fun s => s.1 ≤ (spkR (togS (pz.map prP)) (bitsL cue m) n).length) (fun s => [(1, .int .u16 cue), (9, .int .i64 (m : Int)), (10, .int .i64 (n : Int)), (11, .func (.func 42) #[] #[]), (12, .slice qa pz.length qc), (18, .slice ba20 ((bitsL cue m).length) bc21), (115, .slice sa ((spkR (togS (pz.map prP)) (bitsL cue m) n).length) sc), (116, .int .i64 ((spkR (togS (pz.map prP)) (bitsL cue m) n).length : Int)), (22, .slice s.2.1 s.1 s.2.2), (117, .int .i64 (s.1 : Int))]) (fun s => [row s.2.1 s.2.2 3 1 s.1 (((ansP (togS (pz.map prP)) (bitsL cue m) n).take s.1).flatMap eInt), row sa sc 88 2 ((spkR (togS (pz.map prP)) (bitsL cue m) n).length) ((spkR (togS (pz.map prP)) (bitsL cue m) n).flatMap eEvt), row ba20 bc21 3 1 ((bitsL cue m).length) ((bitsL cue m).flatMap eInt), row qa qc 61 2 pz.length (pz.flatMap ePr), rd (prR pz)]) (fun s => (spkR (togS (pz.map prP)) (bitsL cue m) n).length - s.1) (0, none, 0) (Nat.zero_le _) ⟨rfl, rfl, rfl, rfl, rfl, rfl, rfl, rfl, rfl, rfl, trivial⟩ (fun _ hs => by have h1 := (((((((((hs.pull (.there (.there (.there (.there (.there .here)))))).pull (.there (.there (.there (.there (.there .here)))))).pull (.there (.there (.there (.there (.there .here)))))).pull (.there (.there (.there (.there .here))))).pull (.there (.there (.there (.there .here))))).drop.pull (.there (.there (.there (.there .here))))).drop.pull (.there (.there (.there (.there .here))))).drop.pull (.there (.there (.there (.there .here))))).drop).nilRow 3 1; exact h1) ?_
        rintro ⟨k, ga, gc⟩ hI
        dsimp only at hI
        change Cd _ _ _ _ _ _ _ [(1, .int .u16 cue), (9, .int .i64 (m : Int)), (10, .int .i64 (n : Int)), (11, .func (.func 42) #[] #[]), (12, .slice qa pz.length qc), (18, .slice ba20 ((bitsL cue m).length) bc21), (115, .slice sa ((spkR (togS (pz.map prP)) (bitsL cue m) n).length) sc), (116, .int .i64 ((spkR (togS (pz.map prP)) (bitsL cue m) n).length : Int)), (22, .slice ga k gc), (117, .int .i64 (k : Int))] ([row ga gc 3 1 k (((ansP (togS (pz.map prP)) (bitsL cue m) n).take k).flatMap eInt), row sa sc 88 2 ((spkR (togS (pz.map prP)) (bitsL cue m) n).length) ((spkR (togS (pz.map prP)) (bitsL cue m) n).flatMap eEvt), row ba20 bc21 3 1 ((bitsL cue m).length) ((bitsL cue m).flatMap eInt), row qa qc 61 2 pz.length (pz.flatMap ePr), rd (prR pz)])
        refine Cd.seq ?_
        refine Cd.region ?_
        by_cases hk : (k : Int) < ((spkR (togS (pz.map prP)) (bitsL cue m) n).length : Int)
        · refine Ops.q (q_cmp rfl rfl (c_lt hk)) ?_
          obtain ⟨yv, hyv⟩ : ∃ x, (ansP (togS (pz.map prP)) (bitsL cue m) n)[k]? = some x := ⟨_, List.getElem?_eq_getElem (by have : (spkR (togS (pz.map prP)) (bitsL cue m) n).length = (ansP (togS (pz.map prP)) (bitsL cue m) n).length := List.length_map _; omega)⟩
          have hsv : (spkR (togS (pz.map prP)) (bitsL cue m) n)[k]? = some (⟨8, yv⟩ : Evt) := by unfold spkR; rw [List.getElem?_map, hyv]; rfl
          have hal := ansP_len (togS (pz.map prP)) (bitsL cue m) n
          have hkl : k < (ansP (togS (pz.map prP)) (bitsL cue m) n).length := (List.getElem?_eq_some_iff.1 hyv).1
          refine Ops.rowpos (.there .here) (by omega) ?_
          rintro sb rfl
          refine Ops.to rfl ?_
          refine Cd.seq ?_
          refine Cd.cond_t rfl ?_
          refine Cd.skipTo rfl ?_
          refine Cd.seq ?_
          refine Cd.block ?_
          refine Cd.seq ?_
          refine Cd.region ?_
          refine Ops.q (q_ix (k := k) esz_27 rfl rfl (by omega)) ?_
          refine Ops.q (q_ldON [.int .i64 8, .int .i64 yv] isA_88 sz_88 rfl (.there .here) (fm_atN eEvt_len hsv)) ?_
          refine Ops.alc [.int .i64 0, .int .i64 0] zc_88 ?_
          intro b36
          refine Ops.stB [.int .i64 8, .int .i64 yv] [.int .i64 8, .int .i64 yv] sz_88 rfl rfl rfl (one rfl) .here rfl rfl ?_
          refine Ops.to rfl ?_
          refine Cd.seq ?_
          refine Cd.seq ?_
          refine Cd.region ?_
          refine Ops.q (q_fa fo_88_0 rfl) ?_
          refine Ops.q (q_ldB isA_3 rfl .here rfl) ?_
          refine Ops.q (q_cmp rfl rfl (c_nne rfl)) ?_
          refine Ops.to rfl ?_
          refine Cd.cond_f rfl ?_
          refine Cd.skipTo rfl ?_
          refine Cd.region ?_
          refine Ops.q (q_mv rfl) ?_
          refine Ops.q (q_fa fo_88_1 rfl) ?_
          refine Ops.q (q_ldB isA_3 rfl .here rfl) ?_
          refine Ops.lit [.int .i64 yv] el_26 zsb_3 rfl rfl ⟨by decide, by decide⟩ rfl ?_
          intro b37
          refine Ops.app (news := [.int .i64 yv]) el_26 zsb_3 (by decide) rfl rfl (fun _ hs => hs.ownRo .here) (fun _ hs => (hs.pull .here).drop) (fun _ _ => (.there .here)) rfl (one rfl) (by omega) (by omega) ?_
          intro a38 c39
          refine Ops.q (q_asg rfl) ?_
          refine Ops.to rfl ?_
          refine Cd.region ?_
          refine Ops.q (q_ar rfl rfl (a_inc (by omega))) ?_
          refine Ops.q (q_mv rfl) ?_
          refine Ops.rnd ((k + 1, a38, c39)) rfl (by dsimp only; exact (by omega)) (by dsimp only; omega) ⟨rfl, rfl, rfl, rfl, rfl, rfl, rfl, rfl, rfl, rfl, trivial⟩ (fun _ hs => by have h1 := ((((((hs.pull (.there (.there (.there (.there (.there .here)))))).pull (.there (.there (.there (.there (.there .here)))))).pull (.there (.there (.there (.there (.there .here)))))).pull (.there (.there (.there (.there (.there .here)))))).pull (.there (.there (.there (.there (.there .here)))))).pull (.there (.there (.there (.there (.there .here)))))).drop; (try dsimp only); rw [List.take_add_one, hyv, fm_app]; exact h1) 
        · refine Ops.q (q_cmp rfl rfl (c_nlt (by omega))) ?_
          have hk8 : k = (ansP (togS (pz.map prP)) (bitsL cue m) n).length := by have : (spkR (togS (pz.map prP)) (bitsL cue m) n).length = (ansP (togS (pz.map prP)) (bitsL cue m) n).length := List.length_map _; omega
          rw [hk8, List.take_length]
          refine Ops.to rfl ?_
          refine Cd.seq ?_
          refine Cd.cond_f rfl ?_
          refine Cd.exitTo rfl ?_
          refine Cd.seq ?_
          refine Cd.region ?_
          refine Ops.q (q_asg rfl) ?_
          refine Ops.to rfl ?_
          refine Cd.seq ?_
          refine Cd.seq ?_
          refine Cd.region ?_
          refine Ops.q (q_mv rfl) ?_
          refine Ops.q (q_mv rfl) ?_
          refine Ops.to rfl ?_
          refine Cd.block ?_
          refine Cd.lp (σ := Nat × Option Addr × Nat) (fun s => s.1 ≤ n) (fun s => [(1, .int .u16 cue), (9, .int .i64 (m : Int)), (10, .int .i64 (n : Int)), (11, .func (.func 42) #[] #[]), (12, .slice qa pz.length qc), (18, .slice ba20 ((bitsL cue m).length) bc21), (22, .slice ga ((ansP (togS (pz.map prP)) (bitsL cue m) n).length) gc), (130, .int .i64 (n : Int)), (25, .slice s.2.1 ((ansP (togS (pz.map prP)) (bitsL cue m) s.1).length) s.2.2), (131, .int .i64 (s.1 : Int))]) (fun s => [row s.2.1 s.2.2 3 1 ((ansP (togS (pz.map prP)) (bitsL cue m) s.1).length) ((ansP (togS (pz.map prP)) (bitsL cue m) s.1).flatMap eInt), row ga gc 3 1 ((ansP (togS (pz.map prP)) (bitsL cue m) n).length) ((ansP (togS (pz.map prP)) (bitsL cue m) n).flatMap eInt), row ba20 bc21 3 1 ((bitsL cue m).length) ((bitsL cue m).flatMap eInt), row qa qc 61 2 pz.length (pz.flatMap ePr), rd (prR pz)]) (fun s => n - s.1) (0, none, 0) (Nat.zero_le _) ⟨rfl, rfl, rfl, rfl, rfl, rfl, rfl, rfl, rfl, rfl, trivial⟩ (fun _ hs => by have h1 := ((((((hs.pull (.there (.there (.there (.there .here))))).pull (.there (.there (.there (.there .here))))).pull (.there (.there (.there (.there .here))))).pull (.there (.there (.there .here)))).pull (.there (.there (.there (.there .here))))).drop).nilRow 3 1; exact h1) ?_
          rintro ⟨j, ua, uc⟩ hI
          dsimp only at hI
          change Cd _ _ _ _ _ _ _ [(1, .int .u16 cue), (9, .int .i64 (m : Int)), (10, .int .i64 (n : Int)), (11, .func (.func 42) #[] #[]), (12, .slice qa pz.length qc), (18, .slice ba20 ((bitsL cue m).length) bc21), (22, .slice ga ((ansP (togS (pz.map prP)) (bitsL cue m) n).length) gc), (130, .int .i64 (n : Int)), (25, .slice ua ((ansP (togS (pz.map prP)) (bitsL cue m) j).length) uc), (131, .int .i64 (j : Int))] ([row ua uc 3 1 ((ansP (togS (pz.map prP)) (bitsL cue m) j).length) ((ansP (togS (pz.map prP)) (bitsL cue m) j).flatMap eInt), row ga gc 3 1 ((ansP (togS (pz.map prP)) (bitsL cue m) n).length) ((ansP (togS (pz.map prP)) (bitsL cue m) n).flatMap eInt), row ba20 bc21 3 1 ((bitsL cue m).length) ((bitsL cue m).flatMap eInt), row qa qc 61 2 pz.length (pz.flatMap ePr), rd (prR pz)])
          refine Cd.seq ?_
          refine Cd.region ?_
          by_cases hj : (j : Int) < (n : Int)
          · refine Ops.q (q_cmp rfl rfl (c_lt hj)) ?_
            have haj := ansP_len (togS (pz.map prP)) (bitsL cue m) j
            refine Ops.to rfl ?_
            refine Cd.seq ?_
            refine Cd.cond_t rfl ?_
            refine Cd.skipTo rfl ?_
            refine Cd.seq ?_
            refine Cd.block ?_
            refine Cd.seq ?_
            refine Cd.region ?_
            refine Ops.q (q_mv rfl) ?_
            refine Ops.q (q_asg rfl) ?_
            refine Ops.to rfl ?_
            refine Cd.seq ?_
            refine Cd.region ?_
            refine Ops.q (q_asg rfl) ?_
            refine Ops.to rfl ?_
            refine Cd.seq ?_
            refine Cd.seq ?_
            refine Cd.region ?_
            refine Ops.q (q_mv rfl) ?_
            refine Ops.q (q_len esz_26 rfl) ?_
            refine Ops.q (q_mv rfl) ?_
            refine Ops.to rfl ?_
            refine Cd.block ?_
            refine Cd.lp (σ := Nat × Bool) (fun s => s.1 ≤ (bitsL cue m).length ∧ s.2 = ((bitsL cue m).take s.1).all (fun i : Int => decide ((i, (j : Int)) ∈ (togS (pz.map prP))))) (fun s => [(1, .int .u16 cue), (9, .int .i64 (m : Int)), (10, .int .i64 (n : Int)), (11, .func (.func 42) #[] #[]), (12, .slice qa pz.length qc), (18, .slice ba20 ((bitsL cue m).length) bc21), (22, .slice ga ((ansP (togS (pz.map prP)) (bitsL cue m) n).length) gc), (25, .slice ua ((ansP (togS (pz.map prP)) (bitsL cue m) j).length) uc), (130, .int .i64 (n : Int)), (131, .int .i64 (j : Int)), (26, .int .i64 (j : Int)), (134, .slice ba20 ((bitsL cue m).length) bc21), (135, .int .i64 ((bitsL cue m).length : Int)), (27, .bool s.2), (136, .int .i64 (s.1 : Int))]) (fun s => [row ua uc 3 1 ((ansP (togS (pz.map prP)) (bitsL cue m) j).length) ((ansP (togS (pz.map prP)) (bitsL cue m) j).flatMap eInt), row ga gc 3 1 ((ansP (togS (pz.map prP)) (bitsL cue m) n).length) ((ansP (togS (pz.map prP)) (bitsL cue m) n).flatMap eInt), row ba20 bc21 3 1 ((bitsL cue m).length) ((bitsL cue m).flatMap eInt), row qa qc 61 2 pz.length (pz.flatMap ePr), rd (prR pz)]) (fun s => (bitsL cue m).length - s.1) (0, true) ⟨Nat.zero_le _, rfl⟩ ⟨rfl, rfl, rfl, rfl, rfl, rfl, rfl, rfl, rfl, rfl, rfl, rfl, rfl, rfl, rfl, trivial⟩ (fun _ hs => (((((hs.pull (.there (.there (.there (.there .here))))).pull (.there (.there (.there (.there .here))))).pull (.there (.there (.there (.there .here))))).pull (.there (.there (.there (.there .here))))).pull (.there (.there (.there (.there .here)))))) ?_
            rintro ⟨k, b⟩ hI
            dsimp only at hI
            change Cd _ _ _ _ _ _ _ [(1, .int .u16 cue), (9, .int .i64 (m : Int)), (10, .int .i64 (n : Int)), (11, .func (.func 42) #[] #[]), (12, .slice qa pz.length qc), (18, .slice ba20 ((bitsL cue m).length) bc21), (22, .slice ga ((ansP (togS (pz.map prP)) (bitsL cue m) n).length) gc), (25, .slice ua ((ansP (togS (pz.map prP)) (bitsL cue m) j).length) uc), (130, .int .i64 (n : Int)), (131, .int .i64 (j : Int)), (26, .int .i64 (j : Int)), (134, .slice ba20 ((bitsL cue m).length) bc21), (135, .int .i64 ((bitsL cue m).length : Int)), (27, .bool b), (136, .int .i64 (k : Int))] ([row ua uc 3 1 ((ansP (togS (pz.map prP)) (bitsL cue m) j).length) ((ansP (togS (pz.map prP)) (bitsL cue m) j).flatMap eInt), row ga gc 3 1 ((ansP (togS (pz.map prP)) (bitsL cue m) n).length) ((ansP (togS (pz.map prP)) (bitsL cue m) n).flatMap eInt), row ba20 bc21 3 1 ((bitsL cue m).length) ((bitsL cue m).flatMap eInt), row qa qc 61 2 pz.length (pz.flatMap ePr), rd (prR pz)])
            have hI1 := hI.1
            have hIb := hI
            refine Cd.seq ?_
            refine Cd.region ?_
            by_cases hk : (k : Int) < ((bitsL cue m).length : Int)
            · refine Ops.q (q_cmp rfl rfl (c_lt hk)) ?_
              obtain ⟨x40, hx41⟩ : ∃ x, (bitsL cue m)[k]? = some x := ⟨_, List.getElem?_eq_getElem (by omega)⟩
              refine Ops.rowpos (.there (.there .here)) (by omega) ?_
              rintro rb42 rfl
              refine Ops.to rfl ?_
              refine Cd.seq ?_
              refine Cd.cond_t rfl ?_
              refine Cd.skipTo rfl ?_
              refine Cd.seq ?_
              refine Cd.block ?_
              refine Cd.seq ?_
              refine Cd.region ?_
              refine Ops.q (q_ix (k := k) esz_26 rfl rfl (by omega)) ?_
              refine Ops.q (q_ldO isA_3 rfl (.there (.there .here)) (fm_at0 eInt_len hx41 rfl)) ?_
              refine Ops.q (q_asg rfl) ?_
              refine Ops.to rfl ?_
              refine Cd.seq ?_
              refine Cd.region ?_
              refine Ops.q (q_asg rfl) ?_
              refine Ops.to rfl ?_
              refine Cd.seq ?_
              refine Cd.seq ?_
              refine Cd.region ?_
              refine Ops.q (q_mv rfl) ?_
              refine Ops.q (q_len esz_58 rfl) ?_
              refine Ops.q (q_mv rfl) ?_
              refine Ops.to rfl ?_
              refine Cd.block ?_
              refine Cd.lp (σ := Nat × Bool) (fun s => s.1 ≤ pz.length ∧ s.2 = decide ((x40, (j : Int)) ∈ togS ((pz.map prP).take s.1))) (fun s => [(1, .int .u16 cue), (9, .int .i64 (m : Int)), (10, .int .i64 (n : Int)), (11, .func (.func 42) #[] #[]), (12, .slice qa pz.length qc), (18, .slice (some ⟨rb42, 0, none⟩) ((bitsL cue m).length) bc21), (22, .slice ga ((ansP (togS (pz.map prP)) (bitsL cue m) n).length) gc), (25, .slice ua ((ansP (togS (pz.map prP)) (bitsL cue m) j).length) uc), (130, .int .i64 (n : Int)), (131, .int .i64 (j : Int)), (26, .int .i64 (j : Int)), (134, .slice (some ⟨rb42, 0, none⟩) ((bitsL cue m).length) bc21), (135, .int .i64 ((bitsL cue m).length : Int)), (136, .int .i64 (k : Int)), (27, .bool b), (29, .int .i64 x40), (140, .slice qa pz.length qc), (141, .int .i64 (pz.length : Int)), (30, .bool s.2), (142, .int .i64 (s.1 : Int))]) (fun s => [row ua uc 3 1 ((ansP (togS (pz.map prP)) (bitsL cue m) j).length) ((ansP (togS (pz.map prP)) (bitsL cue m) j).flatMap eInt), row ga gc 3 1 ((ansP (togS (pz.map prP)) (bitsL cue m) n).length) ((ansP (togS (pz.map prP)) (bitsL cue m) n).flatMap eInt), row (some ⟨rb42, 0, none⟩) bc21 3 1 ((bitsL cue m).length) ((bitsL cue m).flatMap eInt), row qa qc 61 2 pz.length (pz.flatMap ePr), rd (prR pz)]) (fun s => pz.length - s.1) (0, false) ⟨Nat.zero_le _, by simp [togS]⟩ ⟨rfl, rfl, rfl, rfl, rfl, rfl, rfl, rfl, rfl, rfl, rfl, rfl, rfl, rfl, rfl, rfl, rfl, rfl, rfl, rfl, trivial⟩ (fun _ hs => (((((hs.pull (.there (.there (.there (.there .here))))).pull (.there (.there (.there (.there .here))))).pull (.there (.there (.there (.there .here))))).pull (.there (.there (.there (.there .here))))).pull (.there (.there (.there (.there .here)))))) ?_
              rintro ⟨kk, b2⟩ hI
              dsimp only at hI
              change Cd _ _ _ _ _ _ _ [(1, .int .u16 cue), (9, .int .i64 (m : Int)), (10, .int .i64 (n : Int)), (11, .func (.func 42) #[] #[]), (12, .slice qa pz.length qc), (18, .slice (some ⟨rb42, 0, none⟩) ((bitsL cue m).length) bc21), (22, .slice ga ((ansP (togS (pz.map prP)) (bitsL cue m) n).length) gc), (25, .slice ua ((ansP (togS (pz.map prP)) (bitsL cue m) j).length) uc), (130, .int .i64 (n : Int)), (131, .int .i64 (j : Int)), (26, .int .i64 (j : Int)), (134, .slice (some ⟨rb42, 0, none⟩) ((bitsL cue m).length) bc21), (135, .int .i64 ((bitsL cue m).length : Int)), (136, .int .i64 (k : Int)), (27, .bool b), (29, .int .i64 x40), (140, .slice qa pz.length qc), (141, .int .i64 (pz.length : Int)), (30, .bool b2), (142, .int .i64 (kk : Int))] ([row ua uc 3 1 ((ansP (togS (pz.map prP)) (bitsL cue m) j).length) ((ansP (togS (pz.map prP)) (bitsL cue m) j).flatMap eInt), row ga gc 3 1 ((ansP (togS (pz.map prP)) (bitsL cue m) n).length) ((ansP (togS (pz.map prP)) (bitsL cue m) n).flatMap eInt), row (some ⟨rb42, 0, none⟩) bc21 3 1 ((bitsL cue m).length) ((bitsL cue m).flatMap eInt), row qa qc 61 2 pz.length (pz.flatMap ePr), rd (prR pz)])
              have hI2 := hI.1
              refine Cd.seq ?_
              refine Cd.region ?_
              by_cases hkk : (kk : Int) < (pz.length : Int)
              · refine Ops.q (q_cmp rfl rfl (c_lt hkk)) ?_
                obtain ⟨⟨⟨⟨ia, ic⟩, xi⟩, ⟨⟨oa, oc⟩, xo⟩⟩, hx⟩ : ∃ x, pz[kk]? = some x := ⟨_, List.getElem?_eq_getElem (by omega)⟩
                have hxm := List.mem_iff_getElem?.2 ⟨kk, hx⟩
                have hxq : (pz.map prP)[kk]? = some (xi, xo) := by rw [List.getElem?_map, hx]; rfl
                have hxP := hpP _ hxm
                have hxi : xi.length ≤ 16 := by have : xi.length ≤ m := hxP.1.2.2; omega
                have hxo : xo.length ≤ 16 := by have : xo.length ≤ n := hxP.2.2.2; omega
                refine Ops.rowpos (.there (.there (.there .here))) (by omega) ?_
                rintro pb rfl
                refine Ops.to rfl ?_
                refine Cd.seq ?_
                refine Cd.cond_t rfl ?_
                refine Cd.skipTo rfl ?_
                refine Cd.seq ?_
                refine Cd.block ?_
                refine Cd.seq ?_
                refine Cd.region ?_
                refine Ops.q (q_ix (k := kk) esz_58 rfl rfl (by omega)) ?_
                refine Ops.q (q_ldON [.slice ia xi.length ic, .slice oa xo.length oc] isA_61 sz_61 rfl (.there (.there (.there .here))) (fm_atN ePr_len hx)) ?_
                refine Ops.alc [.slice none 0 0, .slice none 0 0] zc_61 ?_
                intro b43
                refine Ops.stB [.slice ia xi.length ic, .slice oa xo.length oc] [.slice ia xi.length ic, .slice oa xo.length oc] sz_61 rfl rfl rfl (one rfl) .here rfl rfl ?_
                refine Ops.to rfl ?_
                by_cases hb44 : b2 = true
                · obtain rfl : b2 = true := by simpa using hb44
                  refine Cd.region ?_
                  refine Ops.q (q_mv rfl) ?_
                  refine Ops.q (q_mv rfl) ?_
                  refine Ops.sk ?_
                  refine Ops.sk ?_
                  refine Ops.sk ?_
                  refine Ops.sk ?_
                  refine Ops.sk ?_
                  refine Ops.sk ?_
                  refine Ops.sk ?_
                  refine Ops.sk ?_
                  refine Ops.sk ?_
                  refine Ops.sk ?_
                  refine Ops.q (q_pickT rfl rfl) ?_
                  refine Ops.q (q_asg rfl) ?_
                  refine Ops.to rfl ?_
                  refine Cd.region ?_
                  refine Ops.q (q_ar rfl rfl (a_inc (by omega))) ?_
                  refine Ops.q (q_mv rfl) ?_
                  refine Ops.rnd ((kk + 1, true)) rfl (by dsimp only; exact (⟨by omega, by rw [tog_b hxq, ← hI.2]; simp_all⟩)) (by dsimp only; omega) ⟨rfl, rfl, rfl, rfl, rfl, rfl, rfl, rfl, rfl, rfl, rfl, rfl, rfl, rfl, rfl, rfl, rfl, rfl, rfl, rfl, trivial⟩ (fun _ hs => ((((((hs.pull (.there (.there (.there (.there (.there .here)))))).pull (.there (.there (.there (.there (.there .here)))))).pull (.there (.there (.there (.there (.there .here)))))).pull (.there (.there (.there (.there (.there .here)))))).pull (.there (.there (.there (.there (.there .here)))))).pull (.there (.there (.there (.there (.there .here)))))).drop) 
                · obtain rfl : b2 = false := by simpa using hb44
                  refine Cd.region ?_
                  refine Ops.q (q_mv rfl) ?_
                  refine Ops.q (q_mv rfl) ?_
                  refine Ops.q (q_fa fo_61_0 rfl) ?_
                  refine Ops.q (q_ldB isA_26 rfl .here rfl) ?_
                  refine Ops.q (q_mv rfl) ?_
                  by_cases h45 : x40 ∈ xi
                  · refine Ops.cp en_41 rfl (fun w hs => dT (contains_c _ _ xi x40 w (((hs.read (.there (.there (.there (.there (.there .here)))))) _ hxm).1) (by omega)) h45) ?_
                    refine Ops.q (q_mv rfl) ?_
                    refine Ops.q (q_fa fo_61_1 rfl) ?_
                    refine Ops.q (q_ldB isA_26 rfl .here rfl) ?_
                    refine Ops.q (q_mv rfl) ?_
                    by_cases h46 : (j : Int) ∈ xo
                    · refine Ops.cp en_41 rfl (fun w hs => dT (contains_c _ _ xo (j : Int) w (((hs.read (.there (.there (.there (.there (.there .here)))))) _ hxm).2) (by omega)) h46) ?_
                      refine Ops.q (q_pickT rfl rfl) ?_
                      refine Ops.q (q_pickF rfl rfl) ?_
                      refine Ops.q (q_asg rfl) ?_
                      refine Ops.to rfl ?_
                      refine Cd.region ?_
                      refine Ops.q (q_ar rfl rfl (a_inc (by omega))) ?_
                      refine Ops.q (q_mv rfl) ?_
                      refine Ops.rnd ((kk + 1, true)) rfl (by dsimp only; exact (⟨by omega, by rw [tog_b hxq, ← hI.2]; simp_all⟩)) (by dsimp only; omega) ⟨rfl, rfl, rfl, rfl, rfl, rfl, rfl, rfl, rfl, rfl, rfl, rfl, rfl, rfl, rfl, rfl, rfl, rfl, rfl, rfl, trivial⟩ (fun _ hs => ((((((hs.pull (.there (.there (.there (.there (.there .here)))))).pull (.there (.there (.there (.there (.there .here)))))).pull (.there (.there (.there (.there (.there .here)))))).pull (.there (.there (.there (.there (.there .here)))))).pull (.there (.there (.there (.there (.there .here)))))).pull (.there (.there (.there (.there (.there .here)))))).drop) 
                    · refine Ops.cp en_41 rfl (fun w hs => dF (contains_c _ _ xo (j : Int) w (((hs.read (.there (.there (.there (.there (.there .here)))))) _ hxm).2) (by omega)) h46) ?_
                      refine Ops.q (q_pickT rfl rfl) ?_
                      refine Ops.q (q_pickF rfl rfl) ?_
                      refine Ops.q (q_asg rfl) ?_
                      refine Ops.to rfl ?_
                      refine Cd.region ?_
                      refine Ops.q (q_ar rfl rfl (a_inc (by omega))) ?_
                      refine Ops.q (q_mv rfl) ?_
                      refine Ops.rnd ((kk + 1, false)) rfl (by dsimp only; exact (⟨by omega, by rw [tog_b hxq, ← hI.2]; simp_all⟩)) (by dsimp only; omega) ⟨rfl, rfl, rfl, rfl, rfl, rfl, rfl, rfl, rfl, rfl, rfl, rfl, rfl, rfl, rfl, rfl, rfl, rfl, rfl, rfl, trivial⟩ (fun _ hs => ((((((hs.pull (.there (.there (.there (.there (.there .here)))))).pull (.there (.there (.there (.there (.there .here)))))).pull (.there (.there (.there (.there (.there .here)))))).pull (.there (.there (.there (.there (.there .here)))))).pull (.there (.there (.there (.there (.there .here)))))).pull (.there (.there (.there (.there (.there .here)))))).drop) 
                  · refine Ops.cp en_41 rfl (fun w hs => dF (contains_c _ _ xi x40 w (((hs.read (.there (.there (.there (.there (.there .here)))))) _ hxm).1) (by omega)) h45) ?_
                    refine Ops.q (q_mv rfl) ?_
                    refine Ops.sk ?_
                    refine Ops.sk ?_
                    refine Ops.sk ?_
                    refine Ops.sk ?_
                    refine Ops.q (q_pickF rfl rfl) ?_
                    refine Ops.q (q_pickF rfl rfl) ?_
                    refine Ops.q (q_asg rfl) ?_
                    refine Ops.to rfl ?_
                    refine Cd.region ?_
                    refine Ops.q (q_ar rfl rfl (a_inc (by omega))) ?_
                    refine Ops.q (q_mv rfl) ?_
                    refine Ops.rnd ((kk + 1, false)) rfl (by dsimp only; exact (⟨by omega, by rw [tog_b hxq, ← hI.2]; simp_all⟩)) (by dsimp only; omega) ⟨rfl, rfl, rfl, rfl, rfl, rfl, rfl, rfl, rfl, rfl, rfl, rfl, rfl, rfl, rfl, rfl, rfl, rfl, rfl, rfl, trivial⟩ (fun _ hs => ((((((hs.pull (.there (.there (.there (.there (.there .here)))))).pull (.there (.there (.there (.there (.there .here)))))).pull (.there (.there (.there (.there (.there .here)))))).pull (.there (.there (.there (.there (.there .here)))))).pull (.there (.there (.there (.there (.there .here)))))).pull (.there (.there (.there (.there (.there .here)))))).drop) 
              · refine Ops.q (q_cmp rfl rfl (c_nlt (by omega))) ?_
                have hb10 : b2 = decide ((x40, (j : Int)) ∈ (togS (pz.map prP))) := by rw [hI.2, List.take_of_length_le (by rw [List.length_map]; omega)]
                refine Ops.to rfl ?_
                refine Cd.seq ?_
                refine Cd.cond_f rfl ?_
                refine Cd.exitTo rfl ?_
                by_cases hb47 : b = true
                · obtain rfl : b = true := by simpa using hb47
                  refine Cd.region ?_
                  refine Ops.q (q_mv rfl) ?_
                  refine Ops.q (q_mv rfl) ?_
                  refine Ops.q (q_mv rfl) ?_
                  refine Ops.q (q_pickT rfl rfl) ?_
                  refine Ops.q (q_asg rfl) ?_
                  refine Ops.to rfl ?_
                  refine Cd.region ?_
                  refine Ops.q (q_ar rfl rfl (a_inc (by omega))) ?_
                  refine Ops.q (q_mv rfl) ?_
                  refine Ops.rnd ((k + 1, b2)) rfl (by dsimp only; exact (⟨by omega, by rw [all_step hx41]; rw [← hIb.2]; first | (rw [hb10]; rfl) | simp | (rw [hb10]; simp)⟩)) (by dsimp only; omega) ⟨rfl, rfl, rfl, rfl, rfl, rfl, rfl, rfl, rfl, rfl, rfl, rfl, rfl, rfl, rfl, trivial⟩ (fun _ hs => (((((hs.pull (.there (.there (.there (.there .here))))).pull (.there (.there (.there (.there .here))))).pull (.there (.there (.there (.there .here))))).pull (.there (.there (.there (.there .here))))).pull (.there (.there (.there (.there .here)))))) 
                · obtain rfl : b = false := by simpa using hb47
                  refine Cd.region ?_
                  refine Ops.q (q_mv rfl) ?_
                  refine Ops.q (q_mv rfl) ?_
                  refine Ops.sk ?_
                  refine Ops.q (q_pickF rfl rfl) ?_
                  refine Ops.q (q_asg rfl) ?_
                  refine Ops.to rfl ?_
                  refine Cd.region ?_
                  refine Ops.q (q_ar rfl rfl (a_inc (by omega))) ?_
                  refine Ops.q (q_mv rfl) ?_
                  refine Ops.rnd ((k + 1, false)) rfl (by dsimp only; exact (⟨by omega, by rw [all_step hx41]; rw [← hIb.2]; first | (rw [hb10]; rfl) | simp | (rw [hb10]; simp)⟩)) (by dsimp only; omega) ⟨rfl, rfl, rfl, rfl, rfl, rfl, rfl, rfl, rfl, rfl, rfl, rfl, rfl, rfl, rfl, trivial⟩ (fun _ hs => (((((hs.pull (.there (.there (.there (.there .here))))).pull (.there (.there (.there (.there .here))))).pull (.there (.there (.there (.there .here))))).pull (.there (.there (.there (.there .here))))).pull (.there (.there (.there (.there .here)))))) 
            · refine Ops.q (q_cmp rfl rfl (c_nlt (by omega))) ?_
              have hball : b = ansR (togS (pz.map prP)) (bitsL cue m) j := by rw [hI.2, List.take_of_length_le (show (bitsL cue m).length ≤ k by omega)]; rfl
              refine Ops.to rfl ?_
              refine Cd.seq ?_
              refine Cd.cond_f rfl ?_
              refine Cd.exitTo rfl ?_
              refine Cd.seq ?_
              refine Cd.region ?_
              refine Ops.q (q_mv rfl) ?_
              refine Ops.to rfl ?_
              refine Cd.cond rfl (fun h48 => ?_) (fun h48 => ?_)
              · have hbt : ansR (togS (pz.map prP)) (bitsL cue m) j = true := by rw [← hball]; assumption
                refine Cd.region ?_
                refine Ops.q (q_mv rfl) ?_
                refine Ops.q (q_mv rfl) ?_
                refine Ops.lit [.int .i64 (j : Int)] el_26 zsb_3 rfl rfl ⟨by decide, by decide⟩ rfl ?_
                intro b49
                refine Ops.app (news := [.int .i64 (j : Int)]) el_26 zsb_3 (by decide) rfl rfl (fun _ hs => hs.ownRo .here) (fun _ hs => (hs.pull .here).drop) (fun _ _ => .here) rfl (one rfl) (by omega) (by omega) ?_
                intro a50 c51
                refine Ops.q (q_asg rfl) ?_
                refine Ops.to rfl ?_
                refine Cd.region ?_
                refine Ops.q (q_ar rfl rfl (a_inc (by omega))) ?_
                refine Ops.q (q_mv rfl) ?_
                refine Ops.rnd ((j + 1, a50, c51)) rfl (by dsimp only; exact (by omega)) (by dsimp only; omega) ⟨rfl, rfl, rfl, rfl, rfl, rfl, rfl, rfl, (by (try dsimp only); rw [ansP_yes hbt, List.length_append]; rfl), rfl, trivial⟩ (fun _ hs => by have h1 := (((((hs.pull (.there (.there (.there (.there .here))))).pull (.there (.there (.there (.there .here))))).pull (.there (.there (.there (.there .here))))).pull (.there (.there (.there (.there .here))))).pull (.there (.there (.there (.there .here))))); (try dsimp only); rw [ansP_yes hbt, List.length_append, fm_app]; exact h1) 
              · have hbt : ¬ ansR (togS (pz.map prP)) (bitsL cue m) j = true := by rw [← hball]; simp_all
                refine Cd.skipTo rfl ?_
                refine Cd.region ?_
                refine Ops.q (q_ar rfl rfl (a_inc (by omega))) ?_
                refine Ops.q (q_mv rfl) ?_
                refine Ops.rnd ((j + 1, ua, uc)) rfl (by dsimp only; exact (by omega)) (by dsimp only; omega) ⟨rfl, rfl, rfl, rfl, rfl, rfl, rfl, rfl, (by (try dsimp only); rw [ansP_no hbt]; rfl), rfl, trivial⟩ (fun _ hs => by have h1 := (((((hs.pull (.there (.there (.there (.there .here))))).pull (.there (.there (.there (.there .here))))).pull (.there (.there (.there (.there .here))))).pull (.there (.there (.there (.there .here))))).pull (.there (.there (.there (.there .here))))); (try dsimp only); rw [ansP_no hbt]; exact h1) 
          · refine Ops.q (q_cmp rfl rfl (c_nlt (by omega))) ?_
            refine Ops.to rfl ?_
            refine Cd.seq ?_
            refine Cd.cond_f rfl ?_
            refine Cd.exitTo rfl ?_
            refine Cd.seq ?_
            refine Cd.seq ?_
            refine Cd.region ?_
            refine Ops.q (q_mv rfl) ?_
            refine Ops.q (q_len esz_58 rfl) ?_
            refine Ops.q (q_mv rfl) ?_
            refine Ops.to rfl ?_
            refine Cd.block ?_
            refine Cd.lp (σ := Nat) (fun q => q ≤ pz.length) (fun q => [(1, .int .u16 cue), (9, .int .i64 (m : Int)), (10, .int .i64 (n : Int)), (11, .func (.func 42) #[] #[]), (12, .slice qa pz.length qc), (18, .slice ba20 ((bitsL cue m).length) bc21), (22, .slice ga ((ansP (togS (pz.map prP)) (bitsL cue m) n).length) gc), (25, .slice ua ((ansP (togS (pz.map prP)) (bitsL cue m) j).length) uc), (171, .slice qa pz.length qc), (172, .int .i64 (pz.length : Int)), (173, .int .i64 (q : Int))]) (fun q => [row ua uc 3 1 ((ansP (togS (pz.map prP)) (bitsL cue m) j).length) ((ansP (togS (pz.map prP)) (bitsL cue m) j).flatMap eInt), row ga gc 3 1 ((ansP (togS (pz.map prP)) (bitsL cue m) n).length) ((ansP (togS (pz.map prP)) (bitsL cue m) n).flatMap eInt), row ba20 bc21 3 1 ((bitsL cue m).length) ((bitsL cue m).flatMap eInt), row qa qc 61 2 pz.length (pz.flatMap ePr), rd (prR pz)]) (fun q => pz.length - q) 0 (Nat.zero_le _) ⟨rfl, rfl, rfl, rfl, rfl, rfl, rfl, rfl, rfl, rfl, rfl, trivial⟩ (fun _ hs => (((((hs.pull (.there (.there (.there (.there .here))))).pull (.there (.there (.there (.there .here))))).pull (.there (.there (.there (.there .here))))).pull (.there (.there (.there (.there .here))))).pull (.there (.there (.there (.there .here)))))) ?_
            intro q hI
            refine Cd.seq ?_
            refine Cd.region ?_
            by_cases hq : (q : Int) < (pz.length : Int)
            · refine Ops.q (q_cmp rfl rfl (c_lt hq)) ?_
              obtain ⟨⟨⟨⟨ia, ic⟩, xi⟩, ⟨⟨oa, oc⟩, xo⟩⟩, hx⟩ : ∃ x, pz[q]? = some x := ⟨_, List.getElem?_eq_getElem (by omega)⟩
              have hxm := List.mem_iff_getElem?.2 ⟨q, hx⟩
              have hxq : (pz.map prP)[q]? = some (xi, xo) := by rw [List.getElem?_map, hx]; rfl
              have hxP := hpP _ hxm
              have hxi : xi.length ≤ 16 := by have : xi.length ≤ m := hxP.1.2.2; omega
              have hxo : xo.length ≤ 16 := by have : xo.length ≤ n := hxP.2.2.2; omega
              refine Ops.rowpos (.there (.there (.there .here))) (by omega) ?_
              rintro pb rfl
              refine Ops.to rfl ?_
              refine Cd.seq ?_
              refine Cd.cond_t rfl ?_
              refine Cd.skipTo rfl ?_
              refine Cd.seq ?_
              refine Cd.block ?_
              refine Cd.seq ?_
              refine Cd.region ?_
              refine Ops.q (q_ix (k := q) esz_58 rfl rfl (by omega)) ?_
              refine Ops.q (q_ldON [.slice ia xi.length ic, .slice oa xo.length oc] isA_61 sz_61 rfl (.there (.there (.there .here))) (fm_atN ePr_len hx)) ?_
              refine Ops.alc [.slice none 0 0, .slice none 0 0] zc_61 ?_
              intro b52
              refine Ops.stB [.slice ia xi.length ic, .slice oa xo.length oc] [.slice ia xi.length ic, .slice oa xo.length oc] sz_61 rfl rfl rfl (one rfl) .here rfl rfl ?_
              refine Ops.to rfl ?_
              refine Cd.seq ?_
              refine Cd.region ?_
              refine Ops.q (q_asg rfl) ?_
              refine Ops.to rfl ?_
              refine Cd.seq ?_
              refine Cd.seq ?_
              refine Cd.region ?_
              refine Ops.q (q_mv rfl) ?_
              refine Ops.q (q_len esz_26 rfl) ?_
              refine Ops.q (q_mv rfl) ?_
              refine Ops.to rfl ?_
              refine Cd.block ?_
              refine Cd.lp (σ := Nat × Bool) (fun s => s.1 ≤ (bitsL cue m).length ∧ s.2 = ((bitsL cue m).take s.1).all (fun i : Int => decide (i ∈ xi))) (fun s => [(1, .int .u16 cue), (9, .int .i64 (m : Int)), (10, .int .i64 (n : Int)), (11, .func (.func 42) #[] #[]), (12, .slice (some ⟨pb, 0, none⟩) pz.length qc), (18, .slice ba20 ((bitsL cue m).length) bc21), (22, .slice ga ((ansP (togS (pz.map prP)) (bitsL cue m) n).length) gc), (25, .slice ua ((ansP (togS (pz.map prP)) (bitsL cue m) j).length) uc), (171, .slice (some ⟨pb, 0, none⟩) pz.length qc), (172, .int .i64 (pz.length : Int)), (173, .int .i64 (q : Int)), (34, .pointer (some ⟨b52, 0, none⟩)), (177, .slice ba20 ((bitsL cue m).length) bc21), (178, .int .i64 ((bitsL cue m).length : Int)), (35, .bool s.2), (179, .int .i64 (s.1 : Int))]) (fun s => [row ua uc 3 1 ((ansP (togS (pz.map prP)) (bitsL cue m) j).length) ((ansP (togS (pz.map prP)) (bitsL cue m) j).flatMap eInt), row ga gc 3 1 ((ansP (togS (pz.map prP)) (bitsL cue m) n).length) ((ansP (togS (pz.map prP)) (bitsL cue m) n).flatMap eInt), row ba20 bc21 3 1 ((bitsL cue m).length) ((bitsL cue m).flatMap eInt), row (some ⟨pb, 0, none⟩) qc 61 2 pz.length (pz.flatMap ePr), rd (prR pz), blk b52 61 [.slice ia xi.length ic, .slice oa xo.length oc]]) (fun s => (bitsL cue m).length - s.1) (0, true) ⟨Nat.zero_le _, rfl⟩ ⟨rfl, rfl, rfl, rfl, rfl, rfl, rfl, rfl, rfl, rfl, rfl, rfl, rfl, rfl, rfl, rfl, trivial⟩ (fun _ hs => ((((((hs.pull .here).pull (.there (.there (.there (.there (.there .here)))))).pull (.there (.there (.there (.there (.there .here)))))).pull (.there (.there (.there (.there (.there .here)))))).pull (.there (.there (.there (.there (.there .here)))))).pull (.there (.there (.there (.there (.there .here))))))) ?_
              rintro ⟨k, b⟩ hI
              dsimp only at hI
              change Cd _ _ _ _ _ _ _ [(1, .int .u16 cue), (9, .int .i64 (m : Int)), (10, .int .i64 (n : Int)), (11, .func (.func 42) #[] #[]), (12, .slice (some ⟨pb, 0, none⟩) pz.length qc), (18, .slice ba20 ((bitsL cue m).length) bc21), (22, .slice ga ((ansP (togS (pz.map prP)) (bitsL cue m) n).length) gc), (25, .slice ua ((ansP (togS (pz.map prP)) (bitsL cue m) j).length) uc), (171, .slice (some ⟨pb, 0, none⟩) pz.length qc), (172, .int .i64 (pz.length : Int)), (173, .int .i64 (q : Int)), (34, .pointer (some ⟨b52, 0, none⟩)), (177, .slice ba20 ((bitsL cue m).length) bc21), (178, .int .i64 ((bitsL cue m).length : Int)), (35, .bool b), (179, .int .i64 (k : Int))] ([row ua uc 3 1 ((ansP (togS (pz.map prP)) (bitsL cue m) j).length) ((ansP (togS (pz.map prP)) (bitsL cue m) j).flatMap eInt), row ga gc 3 1 ((ansP (togS (pz.map prP)) (bitsL cue m) n).length) ((ansP (togS (pz.map prP)) (bitsL cue m) n).flatMap eInt), row ba20 bc21 3 1 ((bitsL cue m).length) ((bitsL cue m).flatMap eInt), row (some ⟨pb, 0, none⟩) qc 61 2 pz.length (pz.flatMap ePr), rd (prR pz), blk b52 61 [.slice ia xi.length ic, .slice oa xo.length oc]])
              have hI1 := hI.1
              have hIb := hI
              refine Cd.seq ?_
              refine Cd.region ?_
              by_cases hk : (k : Int) < ((bitsL cue m).length : Int)
              · refine Ops.q (q_cmp rfl rfl (c_lt hk)) ?_
                obtain ⟨x53, hx54⟩ : ∃ x, (bitsL cue m)[k]? = some x := ⟨_, List.getElem?_eq_getElem (by omega)⟩
                refine Ops.rowpos (.there (.there .here)) (by omega) ?_
                rintro rb55 rfl
                refine Ops.to rfl ?_
                refine Cd.seq ?_
                refine Cd.cond_t rfl ?_
                refine Cd.skipTo rfl ?_
                refine Cd.seq ?_
                refine Cd.block ?_
                refine Cd.seq ?_
                refine Cd.region ?_
                refine Ops.q (q_ix (k := k) esz_26 rfl rfl (by omega)) ?_
                refine Ops.q (q_ldO isA_3 rfl (.there (.there .here)) (fm_at0 eInt_len hx54 rfl)) ?_
                refine Ops.q (q_asg rfl) ?_
                refine Ops.to rfl ?_
                by_cases hb56 : b = true
                · obtain rfl : b = true := by simpa using hb56
                  refine Cd.region ?_
                  refine Ops.q (q_mv rfl) ?_
                  refine Ops.q (q_mv rfl) ?_
                  refine Ops.q (q_fa fo_61_0 rfl) ?_
                  refine Ops.q (q_ldB isA_26 rfl (.there (.there (.there (.there (.there .here))))) rfl) ?_
                  refine Ops.q (q_mv rfl) ?_
                  by_cases h57 : x53 ∈ xi
                  · refine Ops.cp en_41 rfl (fun w hs => dT (contains_c _ _ xi x53 w (((hs.read (.there (.there (.there (.there .here))))) _ hxm).1) (by omega)) h57) ?_
                    refine Ops.q (q_pickT rfl rfl) ?_
                    refine Ops.q (q_asg rfl) ?_
                    refine Ops.to rfl ?_
                    refine Cd.region ?_
                    refine Ops.q (q_ar rfl rfl (a_inc (by omega))) ?_
                    refine Ops.q (q_mv rfl) ?_
                    refine Ops.rnd ((k + 1, true)) rfl (by dsimp only; exact (⟨by omega, by rw [all_step hx54, ← hIb.2]; simp_all⟩)) (by dsimp only; omega) ⟨rfl, rfl, rfl, rfl, rfl, rfl, rfl, rfl, rfl, rfl, rfl, rfl, rfl, rfl, rfl, rfl, trivial⟩ (fun _ hs => ((((((hs.pull (.there (.there (.there (.there (.there .here)))))).pull (.there (.there (.there (.there (.there .here)))))).pull (.there (.there (.there (.there (.there .here)))))).pull (.there (.there (.there (.there (.there .here)))))).pull (.there (.there (.there (.there (.there .here)))))).pull (.there (.there (.there (.there (.there .here))))))) 
                  · refine Ops.cp en_41 rfl (fun w hs => dF (contains_c _ _ xi x53 w (((hs.read (.there (.there (.there (.there .here))))) _ hxm).1) (by omega)) h57) ?_
                    refine Ops.q (q_pickT rfl rfl) ?_
                    refine Ops.q (q_asg rfl) ?_
                    refine Ops.to rfl ?_
                    refine Cd.region ?_
                    refine Ops.q (q_ar rfl rfl (a_inc (by omega))) ?_
                    refine Ops.q (q_mv rfl) ?_
                    refine Ops.rnd ((k + 1, false)) rfl (by dsimp only; exact (⟨by omega, by rw [all_step hx54, ← hIb.2]; simp_all⟩)) (by dsimp only; omega) ⟨rfl, rfl, rfl, rfl, rfl, rfl, rfl, rfl, rfl, rfl, rfl, rfl, rfl, rfl, rfl, rfl, trivial⟩ (fun _ hs => ((((((hs.pull (.there (.there (.there (.there (.there .here)))))).pull (.there (.there (.there (.there (.there .here)))))).pull (.there (.there (.there (.there (.there .here)))))).pull (.there (.there (.there (.there (.there .here)))))).pull (.there (.there (.there (.there (.there .here)))))).pull (.there (.there (.there (.there (.there .here))))))) 
                · obtain rfl : b = false := by simpa using hb56
                  refine Cd.region ?_
                  refine Ops.q (q_mv rfl) ?_
                  refine Ops.q (q_mv rfl) ?_
                  refine Ops.sk ?_
                  refine Ops.sk ?_
                  refine Ops.sk ?_
                  refine Ops.sk ?_
                  refine Ops.q (q_pickF rfl rfl) ?_
                  refine Ops.q (q_asg rfl) ?_
                  refine Ops.to rfl ?_
                  refine Cd.region ?_
                  refine Ops.q (q_ar rfl rfl (a_inc (by omega))) ?_
                  refine Ops.q (q_mv rfl) ?_
                  refine Ops.rnd ((k + 1, false)) rfl (by dsimp only; exact (⟨by omega, by rw [all_step hx54, ← hIb.2]; simp_all⟩)) (by dsimp only; omega) ⟨rfl, rfl, rfl, rfl, rfl, rfl, rfl, rfl, rfl, rfl, rfl, rfl, rfl, rfl, rfl, rfl, trivial⟩ (fun _ hs => ((((((hs.pull (.there (.there (.there (.there (.there .here)))))).pull (.there (.there (.there (.there (.there .here)))))).pull (.there (.there (.there (.there (.there .here)))))).pull (.there (.there (.there (.there (.there .here)))))).pull (.there (.there (.there (.there (.there .here)))))).pull (.there (.there (.there (.there (.there .here))))))) 
              · refine Ops.q (q_cmp rfl rfl (c_nlt (by omega))) ?_
                have hbp : b = true → ∀ i ∈ (bitsL cue m), i ∈ xi := fun h i hi => by have h9 := hI.2; rw [h, List.take_of_length_le (show (bitsL cue m).length ≤ k by omega)] at h9; simpa using List.all_eq_true.1 h9.symm i hi
                refine Ops.to rfl ?_
                refine Cd.seq ?_
                refine Cd.cond_f rfl ?_
                refine Cd.exitTo rfl ?_
                refine Cd.seq ?_
                refine Cd.region ?_
                refine Ops.q (q_fa fo_61_1 rfl) ?_
                refine Ops.q (q_ldB isA_26 rfl (.there (.there (.there (.there (.there .here))))) rfl) ?_
                refine Ops.q (q_len esz_26 rfl) ?_
                refine Ops.q (q_mv rfl) ?_
                refine Ops.to rfl ?_
                refine Cd.block ?_
                refine Cd.lp (σ := Nat) (fun l => l ≤ xo.length) (fun l => [(1, .int .u16 cue), (9, .int .i64 (m : Int)), (10, .int .i64 (n : Int)), (11, .func (.func 42) #[] #[]), (12, .slice (some ⟨pb, 0, none⟩) pz.length qc), (18, .slice ba20 ((bitsL cue m).length) bc21), (22, .slice ga ((ansP (togS (pz.map prP)) (bitsL cue m) n).length) gc), (25, .slice ua ((ansP (togS (pz.map prP)) (bitsL cue m) j).length) uc), (171, .slice (some ⟨pb, 0, none⟩) pz.length qc), (172, .int .i64 (pz.length : Int)), (173, .int .i64 (q : Int)), (34, .pointer (some ⟨b52, 0, none⟩)), (35, .bool b), (192, .slice oa xo.length oc), (193, .int .i64 (xo.length : Int)), (194, .int .i64 (l : Int))]) (fun l => [row ua uc 3 1 ((ansP (togS (pz.map prP)) (bitsL cue m) j).length) ((ansP (togS (pz.map prP)) (bitsL cue m) j).flatMap eInt), row ga gc 3 1 ((ansP (togS (pz.map prP)) (bitsL cue m) n).length) ((ansP (togS (pz.map prP)) (bitsL cue m) n).flatMap eInt), row ba20 bc21 3 1 ((bitsL cue m).length) ((bitsL cue m).flatMap eInt), row (some ⟨pb, 0, none⟩) qc 61 2 pz.length (pz.flatMap ePr), rd (prR pz), blk b52 61 [.slice ia xi.length ic, .slice oa xo.length oc]]) (fun l => xo.length - l) 0 (Nat.zero_le _) ⟨rfl, rfl, rfl, rfl, rfl, rfl, rfl, rfl, rfl, rfl, rfl, rfl, rfl, rfl, rfl, rfl, trivial⟩ (fun _ hs => ((((((hs.pull (.there (.there (.there (.there (.there .here)))))).pull (.there (.there (.there (.there (.there .here)))))).pull (.there (.there (.there (.there (.there .here)))))).pull (.there (.there (.there (.there (.there .here)))))).pull (.there (.there (.there (.there (.there .here)))))).pull (.there (.there (.there (.there (.there .here))))))) ?_
                intro l hI
                refine Cd.seq ?_
                refine Cd.region ?_
                by_cases hl : (l : Int) < (xo.length : Int)
                · refine Ops.q (q_cmp rfl rfl (c_lt hl)) ?_
                  obtain ⟨zo, hzo⟩ : ∃ x, xo[l]? = some x := ⟨_, List.getElem?_eq_getElem (by omega)⟩
                  refine Ops.sat (A' := [row ua uc 3 1 ((ansP (togS (pz.map prP)) (bitsL cue m) j).length) ((ansP (togS (pz.map prP)) (bitsL cue m) j).flatMap eInt), row ga gc 3 1 ((ansP (togS (pz.map prP)) (bitsL cue m) n).length) ((ansP (togS (pz.map prP)) (bitsL cue m) n).flatMap eInt), row ba20 bc21 3 1 ((bitsL cue m).length) ((bitsL cue m).flatMap eInt), row (some ⟨pb, 0, none⟩) qc 61 2 pz.length (pz.flatMap ePr), rd (prR pz), blk b52 61 [.slice ia xi.length ic, .slice oa xo.length oc]]) ?_ (fun _ hs => hs)
                  refine Ops.ropos (.there (.there (.there (.there .here)))) (φ := prR pz) (fun w h => (h _ hxm).2) (fm_pos eInt_len hzo) ?_
                  rintro ob oo rfl
                  refine Ops.to rfl ?_
                  refine Cd.seq ?_
                  refine Cd.cond_t rfl ?_
                  refine Cd.skipTo rfl ?_
                  refine Cd.seq ?_
                  refine Cd.block ?_
                  refine Cd.seq ?_
                  refine Cd.region ?_
                  refine Ops.q (q_ix (k := l) esz_26 rfl rfl (by omega)) ?_
                  refine Ops.q (q_ld (v := .int .i64 zo) isA_3 rfl (fun w hs => ((hs.read (.there (.there (.there (.there .here))))) _ hxm).2.at0 eInt_len hzo rfl)) ?_
                  refine Ops.q (q_asg rfl) ?_
                  refine Ops.to rfl ?_
                  refine Cd.seq ?_
                  by_cases hb58 : b = true
                  · obtain rfl : b = true := by simpa using hb58
                    have hpart := hbp rfl
                    refine Cd.region ?_
                    refine Ops.q (q_mv rfl) ?_
                    refine Ops.q (q_mv rfl) ?_
                    refine Ops.q (q_mv rfl) ?_
                    refine Ops.q (q_mv rfl) ?_
                    refine Ops.cp en_41 rfl (fun w hs => dT (contains_c _ _ (ansP (togS (pz.map prP)) (bitsL cue m) n) zo w (hs.ownRo (.there .here)) (by have := ansP_len (togS (pz.map prP)) (bitsL cue m) n; omega)) (ansP_mem (hxP.2.1 zo (List.mem_iff_getElem?.2 ⟨l, hzo⟩)).1 (hxP.2.1 zo (List.mem_iff_getElem?.2 ⟨l, hzo⟩)).2 (fun i hi => togS_mem.2 ⟨(xi, xo), List.mem_iff_getElem?.2 ⟨q, hxq⟩, hpart i hi, List.mem_iff_getElem?.2 ⟨l, hzo⟩⟩))) ?_
                    refine Ops.q (q_not rfl) ?_
                    refine Ops.q (q_pickT rfl rfl) ?_
                    refine Ops.to rfl ?_
                    refine Cd.cond_f rfl ?_
                    refine Cd.skipTo rfl ?_
                    refine Cd.region ?_
                    refine Ops.q (q_ar rfl rfl (a_inc (by omega))) ?_
                    refine Ops.q (q_mv rfl) ?_
                    refine Ops.rnd (l + 1) rfl (by omega) (by omega) ⟨rfl, rfl, rfl, rfl, rfl, rfl, rfl, rfl, rfl, rfl, rfl, rfl, rfl, rfl, rfl, rfl, trivial⟩ (fun _ hs => ((((((hs.pull (.there (.there (.there (.there (.there .here)))))).pull (.there (.there (.there (.there (.there .here)))))).pull (.there (.there (.there (.there (.there .here)))))).pull (.there (.there (.there (.there (.there .here)))))).pull (.there (.there (.there (.there (.there .here)))))).pull (.there (.there (.there (.there (.there .here))))))) 
                  · obtain rfl : b = false := by simpa using hb58
                    refine Cd.region ?_
                    refine Ops.q (q_mv rfl) ?_
                    refine Ops.q (q_mv rfl) ?_
                    refine Ops.sk ?_
                    refine Ops.sk ?_
                    refine Ops.sk ?_
                    refine Ops.sk ?_
                    refine Ops.q (q_pickF rfl rfl) ?_
                    refine Ops.to rfl ?_
                    refine Cd.cond_f rfl ?_
                    refine Cd.skipTo rfl ?_
                    refine Cd.region ?_
                    refine Ops.q (q_ar rfl rfl (a_inc (by omega))) ?_
                    refine Ops.q (q_mv rfl) ?_
                    refine Ops.rnd (l + 1) rfl (by omega) (by omega) ⟨rfl, rfl, rfl, rfl, rfl, rfl, rfl, rfl, rfl, rfl, rfl, rfl, rfl, rfl, rfl, rfl, trivial⟩ (fun _ hs => ((((((hs.pull (.there (.there (.there (.there (.there .here)))))).pull (.there (.there (.there (.there (.there .here)))))).pull (.there (.there (.there (.there (.there .here)))))).pull (.there (.there (.there (.there (.there .here)))))).pull (.there (.there (.there (.there (.there .here)))))).pull (.there (.there (.there (.there (.there .here))))))) 
                · refine Ops.q (q_cmp rfl rfl (c_nlt (by omega))) ?_
                  refine Ops.to rfl ?_
                  refine Cd.seq ?_
                  refine Cd.cond_f rfl ?_
                  refine Cd.exitTo rfl ?_
                  refine Cd.region ?_
                  refine Ops.q (q_ar rfl rfl (a_inc (by omega))) ?_
                  refine Ops.q (q_mv rfl) ?_
                  refine Ops.rnd (q + 1) rfl (by omega) (by omega) ⟨rfl, rfl, rfl, rfl, rfl, rfl, rfl, rfl, rfl, rfl, rfl, trivial⟩ (fun _ hs => ((((((hs.pull (.there (.there (.there (.there .here))))).pull (.there (.there (.there (.there .here))))).pull (.there (.there (.there (.there .here))))).pull (.there (.there (.there (.there .here))))).pull (.there (.there (.there (.there .here))))).pull (.there (.there (.there (.there (.there .here)))))).drop) 
            · refine Ops.q (q_cmp rfl rfl (c_nlt (by omega))) ?_
              refine Ops.to rfl ?_
              refine Cd.seq ?_
              refine Cd.cond_f rfl ?_
              refine Cd.exitTo rfl ?_
              refine Cd.seq ?_
              refine Cd.region ?_
              refine Ops.q (q_mv rfl) ?_
              refine Ops.q (q_mv rfl) ?_
              have hjn : j = n := by omega
              subst hjn
              refine Ops.cp en_23 rfl (fun w hs => dT (numbers_c _ _ _ _ (ansP (togS (pz.map prP)) (bitsL cue m) j) (ansP (togS (pz.map prP)) (bitsL cue m) j) w (hs.ownRo (.there .here)) (hs.ownRo .here) (rowmax hs (.there .here))) rfl) ?_
              refine Ops.q (q_mv rfl) ?_
              refine Ops.cp en_13 rfl (fun w hs => works_c w) ?_
              refine Ops.q (q_pickT rfl rfl) ?_
              refine Ops.q (q_asg rfl) ?_
              refine Ops.to rfl ?_
              refine Cd.rt (fn := Try.f10) [.bool true] (by with_reducible repeat (first | exact rq_here | apply rq_then | apply rq_block)) rfl ⟨rfl, trivial⟩ ?_
              intro w' hs'
              exact ⟨rfl, hs'.none⟩
end Go.Proofs.Ytilcdghliigngaa
