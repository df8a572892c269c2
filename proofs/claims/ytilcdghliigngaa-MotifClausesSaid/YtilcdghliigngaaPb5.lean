/- Part of a claim: the program logic, the contracts of the functions, their models. No condition. -/
import Derived.WalkKit
import Derived.OwnWalkIn
import Derived.TacticsInMore
import Derived.OrdersIn
import Derived.RangeFuncLeaves
import Derived.RangeFuncNested
import Derived.Maps.AppendAt
import Derived.Shelf.Abstract
import Derived.Test.YtilcdghliigngaaProg
import Derived.MapKept
import Derived.Laws.StructEq
import Derived.Laws.OwnMore
import Derived.RangeFuncRecord
import Derived.Lib.SliceRun
import Derived.Lib.AppendZeros
import Derived.Lib.AppendZerosOnto
import Derived.Lib.Overlaps
import Derived.Laws.Externs
import Derived.Test.YtilcdghliigngaaPb4
namespace Go.Proofs.Ytilcdghliigngaa
open Go.RowKit Go.Proofs.YtilcdghliigngaaGl Go.Proofs.YtilcdghliigngaaPm
set_option linter.unusedVariables false
set_option linter.unusedSimpArgs false
abbrev PR := NL × NL
abbrev prP (l : PR) : List Int × List Int := (l.1.2, l.2.2)
def ePr (l : PR) : List Value := [.slice l.1.1.1 l.1.2.length l.1.1.2, .slice l.2.1.1 l.2.2.length l.2.1.2]
theorem ePr_len (l : PR) : (ePr l).length = 2 := rfl
def RoPR (w : World) (a : Option Addr) (ls : List PR) : Prop := RoL w a ePr ls ∧ ∀ l ∈ ls, RoL w l.1.1.1 eInt l.1.2 ∧ RoL w l.2.1.1 eInt l.2.2
theorem RoPR.later {w w' : World} {a : Option Addr} {ls : List PR} (h : RoPR w a ls) (hb : Below w.heap.size w w') : RoPR w' a ls := ⟨RoL.later h.1 hb, fun l hl => ⟨RoL.later (h.2 l hl).1 hb, RoL.later (h.2 l hl).2 hb⟩⟩
def memE (m n : Int) (p : List Int × List Int) : Int := if setE m p.1 = 4 ∨ setE n p.2 = 4 then 4 else if setE m p.1 ≠ 0 ∨ setE n p.2 ≠ 0 then 5 else 0
def prodS (p : List Int × List Int) : List (Int × Int) := p.2.flatMap fun j => p.1.map fun i => (i, j)
def togS (ps : List (List Int × List Int)) : List (Int × Int) := ps.flatMap prodS
def memCell (S : List (Int × Int)) (j i : Nat) : List Syn := if ((i : Int), (j : Int)) ∈ S then [] else [⟨-1 - (i : Int), (j : Int), -1, 1⟩]
def memRow (m : Nat) (S : List (Int × Int)) (j i : Nat) : List Syn := (List.range i).flatMap (memCell S j)
def memTo (m : Nat) (S : List (Int × Int)) (j : Nat) : List Syn := (List.range j).flatMap fun q => [⟨-1 - (m : Int), (q : Int), 1, 1⟩] ++ memRow m S q m
def memP (m n : Int) (ps : List (List Int × List Int)) : Except Int NetP :=
  if wi m 1 64 ∧ wi n 1 64 then
    if 256 < ps.length then .error 9
    else if firstE (memE m n) ps ≠ 0 then .error (firstE (memE m n) ps)
    else .ok ⟨List.replicate n.toNat (gateP 1), m + 1, memTo m.toNat (togS ps) n.toNat⟩
  else .error 3
theorem memCell_len (S : List (Int × Int)) (j i : Nat) : (memCell S j i).length ≤ 1 := by unfold memCell; split <;> simp
theorem memRow_len (m : Nat) (S : List (Int × Int)) (j : Nat) : ∀ i, (memRow m S j i).length ≤ i
  | 0 => by simp [memRow]
  | i + 1 => by
    have ih := memRow_len m S j i
    have h := memCell_len S j i
    unfold memRow at ih ⊢
    rw [rf_app, List.length_append]; omega
theorem memTo_len (m : Nat) (S : List (Int × Int)) : ∀ j, (memTo m S j).length ≤ j * (m + 1)
  | 0 => by simp [memTo]
  | j + 1 => by
    have ih := memTo_len m S j
    have h := memRow_len m S j m
    unfold memTo at ih ⊢
    rw [rf_app, List.length_append, List.length_append, Nat.succ_mul]
    simp only [List.length_cons, List.length_nil]; omega
theorem memRow_step {m j i : Nat} {S : List (Int × Int)} (X : List Syn) : X ++ memRow m S j (i + 1) = (X ++ memRow m S j i) ++ memCell S j i := by
  unfold memRow; rw [rf_app, List.append_assoc]
theorem memTo_step {m j : Nat} {S : List (Int × Int)} (X : List Syn) : X ++ memTo m S (j + 1) = ((X ++ memTo m S j) ++ [⟨-1 - (m : Int), (j : Int), 1, 1⟩]) ++ memRow m S j m := by
  unfold memTo; rw [rf_app]; simp
def tgL (S : List (Int × Int)) : List Bool := (List.range 4096).map fun q => decide ((((q % 64 : Nat) : Int), ((q / 64 : Nat) : Int)) ∈ S)
theorem tgL_len (S : List (Int × Int)) : (tgL S).length = 4096 := by simp [tgL]
theorem tgL_get {S : List (Int × Int)} {i j : Nat} (hi : i < 64) (hj : j < 64) : (tgL S)[j * 64 + i]? = some (decide (((i : Int), (j : Int)) ∈ S)) := by
  have h1 : (j * 64 + i) % 64 = i := by omega
  have h2 : (j * 64 + i) / 64 = j := by omega
  unfold tgL
  rw [List.getElem?_map, List.getElem?_range (by omega)]
  simp only [Option.map_some, h1, h2]
theorem tgL_set {S : List (Int × Int)} {i j : Nat} (hi : i < 64) (hj : j < 64) : (tgL S).set (j * 64 + i) true = tgL (S ++ [((i : Int), (j : Int))]) := by
  apply List.ext_getElem?
  intro q
  rw [List.getElem?_set, tgL_len]
  by_cases hq : q < 4096
  · have e : ∀ S, (tgL S)[q]? = some (decide ((((q % 64 : Nat) : Int), ((q / 64 : Nat) : Int)) ∈ S)) := fun S => by
      unfold tgL; rw [List.getElem?_map, List.getElem?_range hq]; rfl
    rw [e, e]
    by_cases h : j * 64 + i = q
    · subst h
      have h1 : (j * 64 + i) % 64 = i := by omega
      have h2 : (j * 64 + i) / 64 = j := by omega
      rw [if_pos rfl, if_pos (by omega), h1, h2]
      simp
    · rw [if_neg h]
      have hne : ¬ (((q % 64 : Nat) : Int), ((q / 64 : Nat) : Int)) = ((i : Int), (j : Int)) := fun e => by
        simp only [Prod.mk.injEq] at e; omega
      rw [decide_eq_decide.2 (show _ ∈ S ↔ _ ∈ S ++ [_] from by rw [List.mem_append, List.mem_singleton]; exact ⟨.inl, fun h => h.resolve_right hne⟩)]
  · rw [if_neg (by omega)]
    rw [List.getElem?_eq_none (by rw [tgL_len]; omega), List.getElem?_eq_none (by rw [tgL_len]; omega)]
theorem fmB (xs : List Bool) : xs.flatMap eBool = xs.map .bool := by
  induction xs with
  | nil => rfl
  | cons x xs ih => rw [List.flatMap_cons, ih]; rfl
theorem tg0 : (tgL []).flatMap eBool = List.replicate 4096 (.bool false) := by
  rw [fmB, tgL, List.map_map]
  refine List.eq_replicate_iff.2 ⟨by simp, fun b hb => ?_⟩
  obtain ⟨q, _, rfl⟩ := List.mem_map.1 hb
  simp
theorem zc_135 : zc Try.prog 135 = some (List.replicate 4096 (.bool false)) := by kernel_rfl
theorem tg_get {S : List (Int × Int)} {i j : Nat} (hi : i < 64) (hj : j < 64) : ((tgL S).flatMap eBool)[0 + j * 64 + i * 1]? = some (.bool (decide (((i : Int), (j : Int)) ∈ S))) := by
  rw [fmB, List.getElem?_map, show 0 + j * 64 + i * 1 = j * 64 + i by omega, tgL_get hi hj]; rfl
theorem tg_set {S : List (Int × Int)} {i j : Nat} (hi : i < 64) (hj : j < 64) : ((tgL S).flatMap eBool).take (0 + j * 64 + i * 1) ++ [.bool true] ++ ((tgL S).flatMap eBool).drop (0 + j * 64 + i * 1 + [Value.bool true].length) = (tgL (S ++ [((i : Int), (j : Int))])).flatMap eBool := by
  have := fm_set eBool_len (tgL S) (j * 64 + i) true (by rw [tgL_len]; omega)
  rw [tgL_set hi hj] at this
  rw [← this, show 0 + (j * 64 + i) * 1 = 0 + j * 64 + i * 1 by omega]; rfl
theorem tg_len (S : List (Int × Int)) : ((tgL S).flatMap eBool).length = 4096 := by rw [fm_length eBool_len, tgL_len]
theorem setE_ok {n : Int} {xs : List Int} (h : setE n xs = 0) : ∀ x ∈ xs, wi x 0 (n - 1) := by
  unfold setE at h
  split at h
  · assumption
  · cases h
theorem togS_step {ps : List (List Int × List Int)} {k : Nat} {p : List Int × List Int} (h : ps[k]? = some p) : togS (ps.take (k + 1)) = togS (ps.take k) ++ prodS p := by
  unfold togS; rw [List.take_add_one, h, List.flatMap_append]; simp
theorem fmT36 {α β : Type} (f : α → List β) {xs : List α} {k : Nat} {x : α} (h : xs[k]? = some x) : (xs.take (k + 1)).flatMap f = (xs.take k).flatMap f ++ f x := by
  rw [List.take_add_one, h, List.flatMap_append]; simp
theorem memE_4 {m n : Int} {p : List Int × List Int} (h : setE m p.1 = 4 ∨ setE n p.2 = 4) : memE m n p = 4 := by unfold memE; rw [if_pos h]
theorem memE_5 {m n : Int} {p : List Int × List Int} (h : ¬ (setE m p.1 = 4 ∨ setE n p.2 = 4)) (h2 : setE m p.1 ≠ 0 ∨ setE n p.2 ≠ 0) : memE m n p = 5 := by unfold memE; rw [if_neg h, if_pos h2]
theorem memE_0 {m n : Int} {p : List Int × List Int} (h2 : setE m p.1 = 0) (h3 : setE n p.2 = 0) : memE m n p = 0 := by unfold memE; rw [h2, h3]; rfl
theorem memory_c (mi ni : Int) (la : Option Addr) (lc : Nat) (ls : List PR) (w : World) (hL : RoPR w la ls) (hlen : ∀ l ∈ ls, l.1.2.length ≤ 1000000 ∧ l.2.2.length ≤ 1000000) : Calls Try.prog 28 [.int .i64 mi, .int .i64 ni, .slice la ls.length lc].toArray w (RetR (memP mi ni (ls.map prP)) w) := by
  refine fstart Try.func28 rfl rfl (Sat.nil w) ?_
  refine Cd.seq ?_
  refine Cd.region ?_
  refine Ops.alc [.slice none 0 0, .int .i64 0, .slice none 0 0] zc_32 ?_
  intro b1
  refine Ops.q (q_asg rfl) ?_
  refine Ops.to rfl ?_
  refine Cd.seq ?_
  refine Cd.block ?_
  refine Cd.seq ?_
  refine Cd.region ?_
  refine Ops.q (q_mv rfl) ?_
  by_cases h2 : wi mi 1 64
  · refine Ops.cp en_57 rfl (fun w hs => dT (in_c _ _ _ w) h2) ?_
    refine Ops.q (q_not rfl) ?_
    refine Ops.q (q_mv rfl) ?_
    refine Ops.q (q_mv rfl) ?_
    by_cases h3 : wi ni 1 64
    · refine Ops.cp en_57 rfl (fun w hs => dT (in_c _ _ _ w) h3) ?_
      refine Ops.q (q_not rfl) ?_
      refine Ops.q (q_pickF rfl rfl) ?_
      refine Ops.q (q_asg rfl) ?_
      refine Ops.to rfl ?_
      refine Cd.cond_f rfl ?_
      refine Cd.seq ?_
      refine Cd.region ?_
      have hwm : wi mi 1 64 := h2
      have hwn : wi ni 1 64 := h3
      obtain ⟨m, rfl⟩ : ∃ j : Nat, mi = (j : Int) := ⟨mi.toNat, by unfold wi at hwm; omega⟩
      obtain ⟨n, rfl⟩ : ∃ j : Nat, ni = (j : Int) := ⟨ni.toNat, by unfold wi at hwn; omega⟩
      have hm : 1 ≤ m ∧ m ≤ 64 := by unfold wi at hwm; omega
      have hn : 1 ≤ n ∧ n ≤ 64 := by unfold wi at hwn; omega
      have hwmn : wi (m : Int) 1 64 ∧ wi (n : Int) 1 64 := ⟨hwm, hwn⟩
      refine Ops.q (q_mv rfl) ?_
      refine Ops.q (q_len esz_58 rfl) ?_
      by_cases h4 : 256 < (ls.length : Int)
      · refine Ops.q (q_cmp rfl rfl (c_gt h4)) ?_
        refine Ops.q (q_asg rfl) ?_
        refine Ops.to rfl ?_
        refine Cd.cond_t rfl ?_
        refine Cd.seq ?_
        refine Cd.region ?_
        refine Ops.q (q_bld [.slice none 0 0, .int .i64 0, .slice none 0 0] pls_32 zc_32 rfl rfl) ?_
        refine Ops.stB [.slice none 0 0, .int .i64 0, .slice none 0 0] [.slice none 0 0, .int .i64 0, .slice none 0 0] sz_32 rfl rfl rfl (one rfl) .here rfl rfl ?_
        refine Ops.q (q_asg rfl) ?_
        refine Ops.to rfl ?_
        refine Cd.rt (fn := Try.f28) [.agg [.slice none 0 0, .int .i64 0, .slice none 0 0].toArray, .int .i64 9] (by with_reducible repeat (first | exact rq_here | apply rq_then | apply rq_block)) rfl ⟨⟨_, _, rfl, fun _ hs => run_loadN isA_32 sz_32 (fun o u hu => Sat.atB .here (by rw [Nat.zero_add]; exact hu) hs)⟩, rfl, trivial⟩ ?_
        intro w' hs'
        rw [show memP (m : Int) (n : Int) (ls.map prP) = .error 9 by unfold memP; rw [if_pos hwmn, if_pos (by rw [List.length_map]; omega)]]
        exact ⟨rfl, hs'.none⟩
      · refine Ops.q (q_cmp rfl rfl (c_ngt (by omega))) ?_
        refine Ops.q (q_asg rfl) ?_
        refine Ops.to rfl ?_
        refine Cd.cond_f rfl ?_
        refine Cd.skipTo rfl ?_
        refine Cd.seq ?_
        refine Cd.region ?_
        refine Ops.alc ((tgL []).flatMap eBool) (by rw [tg0]; exact zc_135) ?_
        intro tbl
        refine Ops.to rfl ?_
        refine Cd.seq ?_
        refine Cd.seq ?_
        refine Cd.region ?_
        refine Ops.q (q_mv rfl) ?_
        refine Ops.q (q_len esz_58 rfl) ?_
        refine Ops.q (q_mv rfl) ?_
        refine Ops.to rfl ?_
        refine Cd.block ?_
        refine Cd.lp (σ := Nat) (fun k => k ≤ ls.length ∧ firstE (memE (m : Int) (n : Int)) ((ls.map prP).drop k) = firstE (memE (m : Int) (n : Int)) (ls.map prP)) (fun k => [(0, .int .i64 (m : Int)), (1, .int .i64 (n : Int)), (2, .slice la ls.length lc), (6, .pointer (some ⟨b1, 0, none⟩)), (8, .pointer (some ⟨tbl, 0, none⟩)), (36, .slice la ls.length lc), (37, .int .i64 (ls.length : Int)), (38, .int .i64 (k : Int))]) (fun k => [blk tbl 135 ((tgL (togS ((ls.map prP).take k))).flatMap eBool), blk b1 32 [.slice none 0 0, .int .i64 0, .slice none 0 0]]) (fun k => ls.length - k) 0 ⟨Nat.zero_le _, rfl⟩ ⟨rfl, rfl, rfl, rfl, rfl, rfl, rfl, rfl, trivial⟩ (fun _ hs => by have h1 := ((hs.pull (.there .here)).pull (.there .here)); exact h1) ?_
        intro k hI
        have hI1 := hI.1
        have hIk := hI
        refine Cd.seq ?_
        refine Cd.region ?_
        by_cases hk : (k : Int) < (ls.length : Int)
        · refine Ops.q (q_cmp rfl rfl (c_lt hk)) ?_
          obtain ⟨⟨⟨⟨ia, ic⟩, xi⟩, ⟨⟨oa, oc⟩, xo⟩⟩, hx⟩ : ∃ x, ls[k]? = some x := ⟨_, List.getElem?_eq_getElem (by omega)⟩
          have hxm := List.mem_iff_getElem?.2 ⟨k, hx⟩
          have hxe : RoL w ia eInt xi := (hL.2 _ hxm).1
          have hxo : RoL w oa eInt xo := (hL.2 _ hxm).2
          have hxl : xi.length ≤ 1000000 ∧ xo.length ≤ 1000000 := hlen _ hxm
          have hxq : (ls.map prP)[k]? = some (xi, xo) := by rw [List.getElem?_map, hx]; rfl
          obtain ⟨lb, lo, rfl⟩ := RoL.pos hL.1 ePr_len hx
          refine Ops.to rfl ?_
          refine Cd.seq ?_
          refine Cd.cond_t rfl ?_
          refine Cd.skipTo rfl ?_
          refine Cd.seq ?_
          refine Cd.block ?_
          refine Cd.seq ?_
          refine Cd.region ?_
          refine Ops.q (q_ix (k := k) esz_58 rfl rfl (by omega)) ?_
          refine Ops.q (q_ldRN [.slice ia xi.length ic, .slice oa xo.length oc] isA_61 sz_61 rfl (fun j u hu => hL.1.at ePr_len hx hu)) ?_
          refine Ops.alc [.slice none 0 0, .slice none 0 0] zc_61 ?_
          intro b5
          refine Ops.stB [.slice ia xi.length ic, .slice oa xo.length oc] [.slice ia xi.length ic, .slice oa xo.length oc] sz_61 rfl rfl rfl (one rfl) .here rfl rfl ?_
          refine Ops.to rfl ?_
          refine Cd.seq ?_
          refine Cd.draw rfl (by kernel_rfl) (.cons .here .nil) ?_
          intro F6 St7 hP8 hF9 hR10
          refine Dr.q (i := 0) hP8 rfl (by kernel_rfl) (q_fa fo_61_0 rfl) ?_
          refine Dr.q (i := 1) hP8 rfl (by kernel_rfl) (q_ldB isA_26 rfl .here rfl) ?_
          refine Dr.q (i := 2) hP8 rfl (by kernel_rfl) (q_mv rfl) ?_
          refine Dr.q (i := 5) hP8 rfl (by kernel_rfl) (q_fa fo_61_1 rfl) ?_
          refine Dr.q (i := 6) hP8 rfl (by kernel_rfl) (q_ldB isA_26 rfl .here rfl) ?_
          refine Dr.q (i := 7) hP8 rfl (by kernel_rfl) (q_mv rfl) ?_
          refine Dr.e (i := 3) rfl (by kernel_rfl) ?_
          refine Ops.cl (α := Nat) (v := fun b => .func (.func 92) #[] #[.pointer (some ⟨b, 0, none⟩)]) (B := fun b => [blk b 3 [.int .i64 (m : Int)]]) en_65 rfl (fun w hs => below_c (m : Int) w) ?_
          intro bl11
          refine Dr.back (fun _ hs => hF9 (.there .here) hs) ?_
          refine Dr.e (i := 4) rfl (by kernel_rfl) ?_
          refine Ops.cm (α := Unit) (v := fun _ => .int .i64 (setE (m : Int) xi)) (A' := fun _ => [blk bl11 3 [.int .i64 (m : Int)], F6, blk tbl 135 ((tgL (togS ((ls.map prP).take k))).flatMap eBool), blk b1 32 [.slice none 0 0, .int .i64 0, .slice none 0 0]]) en_64 rfl (fun w hs => (different_c bl11 _ _ xi _ _ w _ hxe hxl.1 (by omega) (((((hs.pull (.there (.there (.there .here)))).pull (.there (.there (.there .here)))).pull (.there (.there (.there .here)))).pull (.there (.there (.there .here)))))).mono fun e w' h => ⟨(), h.1, h.2⟩) ?_
          intro _
          refine Dr.back (fun _ hs => hF9 (.there .here) hs) ?_
          refine Dr.e (i := 8) rfl (by kernel_rfl) ?_
          refine Ops.cl (α := Nat) (v := fun b => .func (.func 92) #[] #[.pointer (some ⟨b, 0, none⟩)]) (B := fun b => [blk b 3 [.int .i64 (n : Int)]]) en_65 rfl (fun w hs => below_c (n : Int) w) ?_
          intro bl12
          refine Dr.back (fun _ hs => hF9 (.there (.there .here)) hs) ?_
          refine Dr.e (i := 9) rfl (by kernel_rfl) ?_
          refine Ops.cm (α := Unit) (v := fun _ => .int .i64 (setE (n : Int) xo)) (A' := fun _ => [blk bl12 3 [.int .i64 (n : Int)], blk bl11 3 [.int .i64 (m : Int)], F6, blk tbl 135 ((tgL (togS ((ls.map prP).take k))).flatMap eBool), blk b1 32 [.slice none 0 0, .int .i64 0, .slice none 0 0]]) en_64 rfl (fun w hs => (different_c bl12 _ _ xo _ _ w _ hxo hxl.2 (by omega) ((((((hs.pull (.there (.there (.there (.there .here))))).pull (.there (.there (.there (.there .here))))).pull (.there (.there (.there (.there .here))))).pull (.there (.there (.there (.there .here))))).pull (.there (.there (.there (.there .here))))))).mono fun e w' h => ⟨(), h.1, h.2⟩) ?_
          intro _
          refine Dr.back (fun _ hs => hF9 (.there (.there .here)) hs) ?_
          refine Dr.q (i := 10) hP8 rfl (by kernel_rfl) (q_asg rfl) ?_
          refine Dr.tail 11 (by kernel_rfl) ?_
          refine Ops.sat ?_ (fun _ hs => hR10 (.there (.there .here)) hs)
          refine Ops.q (q_asg rfl) ?_
          refine Ops.to rfl ?_
          refine Cd.seq ?_
          refine Cd.block ?_
          refine Cd.seq ?_
          refine Cd.region ?_
          refine Ops.q (q_mv rfl) ?_
          by_cases he4 : setE (m : Int) xi = 4
          · refine Ops.q (q_cmp rfl rfl (c_eq he4)) ?_
            refine Ops.q (q_mv rfl) ?_
            refine Ops.sk ?_
            refine Ops.sk ?_
            refine Ops.q (q_pickT rfl rfl) ?_
            refine Ops.q (q_asg rfl) ?_
            refine Ops.to rfl ?_
            refine Cd.cond_t rfl ?_
            refine Cd.seq ?_
            refine Cd.region ?_
            refine Ops.q (q_bld [.slice none 0 0, .int .i64 0, .slice none 0 0] pls_32 zc_32 rfl rfl) ?_
            refine Ops.stB [.slice none 0 0, .int .i64 0, .slice none 0 0] [.slice none 0 0, .int .i64 0, .slice none 0 0] sz_32 rfl rfl rfl (one rfl) (.there (.there (.there (.there .here)))) rfl rfl ?_
            refine Ops.q (q_asg rfl) ?_
            refine Ops.to rfl ?_
            refine Cd.rt (fn := Try.f28) [.agg [.slice none 0 0, .int .i64 0, .slice none 0 0].toArray, .int .i64 4] (by with_reducible repeat (first | exact rq_here | apply rq_then | apply rq_block)) rfl ⟨⟨_, _, rfl, fun _ hs => run_loadN isA_32 sz_32 (fun o u hu => Sat.atB (.there (.there (.there (.there .here)))) (by rw [Nat.zero_add]; exact hu) hs)⟩, rfl, trivial⟩ ?_
            intro w' hs'
            have h8 : memE (m : Int) (n : Int) (xi, xo) = 4 := memE_4 (by simp_all)
            have h9 : firstE (memE (m : Int) (n : Int)) (ls.map prP) = 4 := by rw [← hI.2, firstE_stop hxq (by rw [h8]; decide), h8]
            rw [show memP (m : Int) (n : Int) (ls.map prP) = .error (4) by unfold memP; rw [if_pos hwmn, if_neg (by rw [List.length_map]; omega), h9, if_pos (by decide)]]
            exact ⟨rfl, hs'.none⟩
          · refine Ops.q (q_cmp rfl rfl (c_neq he4)) ?_
            refine Ops.q (q_mv rfl) ?_
            refine Ops.q (q_mv rfl) ?_
            by_cases ho4 : setE (n : Int) xo = 4
            · refine Ops.q (q_cmp rfl rfl (c_eq ho4)) ?_
              refine Ops.q (q_pickF rfl rfl) ?_
              refine Ops.q (q_asg rfl) ?_
              refine Ops.to rfl ?_
              refine Cd.cond_t rfl ?_
              refine Cd.seq ?_
              refine Cd.region ?_
              refine Ops.q (q_bld [.slice none 0 0, .int .i64 0, .slice none 0 0] pls_32 zc_32 rfl rfl) ?_
              refine Ops.stB [.slice none 0 0, .int .i64 0, .slice none 0 0] [.slice none 0 0, .int .i64 0, .slice none 0 0] sz_32 rfl rfl rfl (one rfl) (.there (.there (.there (.there .here)))) rfl rfl ?_
              refine Ops.q (q_asg rfl) ?_
              refine Ops.to rfl ?_
              refine Cd.rt (fn := Try.f28) [.agg [.slice none 0 0, .int .i64 0, .slice none 0 0].toArray, .int .i64 4] (by with_reducible repeat (first | exact rq_here | apply rq_then | apply rq_block)) rfl ⟨⟨_, _, rfl, fun _ hs => run_loadN isA_32 sz_32 (fun o u hu => Sat.atB (.there (.there (.there (.there .here)))) (by rw [Nat.zero_add]; exact hu) hs)⟩, rfl, trivial⟩ ?_
              intro w' hs'
              have h8 : memE (m : Int) (n : Int) (xi, xo) = 4 := memE_4 (by simp_all)
              have h9 : firstE (memE (m : Int) (n : Int)) (ls.map prP) = 4 := by rw [← hI.2, firstE_stop hxq (by rw [h8]; decide), h8]
              rw [show memP (m : Int) (n : Int) (ls.map prP) = .error (4) by unfold memP; rw [if_pos hwmn, if_neg (by rw [List.length_map]; omega), h9, if_pos (by decide)]]
              exact ⟨rfl, hs'.none⟩
            · refine Ops.q (q_cmp rfl rfl (c_neq ho4)) ?_
              refine Ops.q (q_pickF rfl rfl) ?_
              refine Ops.q (q_asg rfl) ?_
              refine Ops.to rfl ?_
              refine Cd.cond_f rfl ?_
              refine Cd.seq ?_
              refine Cd.region ?_
              refine Ops.q (q_mv rfl) ?_
              by_cases hse0 : setE (m : Int) xi = 0
              · refine Ops.q (q_cmp rfl rfl (c_nne hse0)) ?_
                refine Ops.q (q_mv rfl) ?_
                refine Ops.q (q_mv rfl) ?_
                by_cases hso0 : setE (n : Int) xo = 0
                · refine Ops.q (q_cmp rfl rfl (c_nne hso0)) ?_
                  refine Ops.q (q_pickF rfl rfl) ?_
                  refine Ops.q (q_asg rfl) ?_
                  refine Ops.to rfl ?_
                  refine Cd.cond_f rfl ?_
                  refine Cd.skipTo rfl ?_
                  refine Cd.seq ?_
                  refine Cd.region ?_
                  refine Ops.q (q_fa fo_61_1 rfl) ?_
                  refine Ops.q (q_ldB isA_26 rfl .here rfl) ?_
                  refine Ops.q (q_len esz_26 rfl) ?_
                  refine Ops.q (q_mv rfl) ?_
                  refine Ops.to rfl ?_
                  refine Cd.block ?_
                  refine Cd.lp (σ := Nat) (fun a => a ≤ xo.length) (fun a => [(0, .int .i64 (m : Int)), (1, .int .i64 (n : Int)), (2, .slice (some ⟨lb, lo, none⟩) ls.length lc), (6, .pointer (some ⟨b1, 0, none⟩)), (8, .pointer (some ⟨tbl, 0, none⟩)), (36, .slice (some ⟨lb, lo, none⟩) ls.length lc), (37, .int .i64 (ls.length : Int)), (38, .int .i64 (k : Int)), (10, .pointer (some ⟨b5, 0, none⟩)), (69, .slice oa xo.length oc), (70, .int .i64 (xo.length : Int)), (71, .int .i64 (a : Int))]) (fun a => [blk tbl 135 ((tgL ((togS ((ls.map prP).take k)) ++ (xo.take a).flatMap (fun j : Int => xi.map fun i => (i, j)))).flatMap eBool), blk b5 61 [.slice ia xi.length ic, .slice oa xo.length oc], blk b1 32 [.slice none 0 0, .int .i64 0, .slice none 0 0]]) (fun a => xo.length - a) 0 (Nat.zero_le _) ⟨rfl, rfl, rfl, rfl, rfl, rfl, rfl, rfl, rfl, rfl, rfl, rfl, trivial⟩ (fun _ hs => by have h1 := (((((hs.pull (.there (.there (.there (.there .here))))).pull (.there .here)).pull (.there (.there (.there (.there .here))))).pull (.there (.there (.there .here)))).drop.pull (.there (.there (.there .here)))).drop; (try dsimp only); rw [show ((togS ((ls.map prP).take k)) ++ (xo.take 0).flatMap (fun j : Int => xi.map fun i => (i, j))) = (togS ((ls.map prP).take k)) from List.append_nil _]; exact h1) ?_
                  intro a hI
                  have hIa := hI
                  refine Cd.seq ?_
                  refine Cd.region ?_
                  by_cases ha : (a : Int) < (xo.length : Int)
                  · refine Ops.q (q_cmp rfl rfl (c_lt ha)) ?_
                    obtain ⟨yo, hy⟩ : ∃ x, xo[a]? = some x := ⟨_, List.getElem?_eq_getElem (by omega)⟩
                    obtain ⟨ob, oo, rfl⟩ := RoL.pos hxo eInt_len hy
                    have hyw := setE_ok hso0 yo (List.mem_iff_getElem?.2 ⟨a, hy⟩)
                    unfold wi at hyw
                    obtain ⟨yn, hyn⟩ : ∃ j : Nat, yo = (j : Int) := ⟨yo.toNat, by omega⟩
                    refine Ops.to rfl ?_
                    refine Cd.seq ?_
                    refine Cd.cond_t rfl ?_
                    refine Cd.skipTo rfl ?_
                    refine Cd.seq ?_
                    refine Cd.block ?_
                    refine Cd.seq ?_
                    refine Cd.region ?_
                    refine Ops.q (q_ix (k := a) esz_26 rfl rfl (by omega)) ?_
                    refine Ops.q (q_ldR isA_3 rfl (hxo.at0 eInt_len hy rfl)) ?_
                    refine Ops.q (q_asg rfl) ?_
                    refine Ops.to rfl ?_
                    refine Cd.seq ?_
                    refine Cd.region ?_
                    refine Ops.q (q_fa fo_61_0 rfl) ?_
                    refine Ops.q (q_ldB isA_26 rfl (.there .here) rfl) ?_
                    refine Ops.q (q_len esz_26 rfl) ?_
                    refine Ops.q (q_mv rfl) ?_
                    refine Ops.to rfl ?_
                    refine Cd.block ?_
                    refine Cd.lp (σ := Nat) (fun b => b ≤ xi.length) (fun b => [(0, .int .i64 (m : Int)), (1, .int .i64 (n : Int)), (2, .slice (some ⟨lb, lo, none⟩) ls.length lc), (6, .pointer (some ⟨b1, 0, none⟩)), (8, .pointer (some ⟨tbl, 0, none⟩)), (36, .slice (some ⟨lb, lo, none⟩) ls.length lc), (37, .int .i64 (ls.length : Int)), (38, .int .i64 (k : Int)), (10, .pointer (some ⟨b5, 0, none⟩)), (69, .slice (some ⟨ob, oo, none⟩) xo.length oc), (70, .int .i64 (xo.length : Int)), (71, .int .i64 (a : Int)), (14, .int .i64 yo), (76, .slice ia xi.length ic), (77, .int .i64 (xi.length : Int)), (78, .int .i64 (b : Int))]) (fun b => [blk tbl 135 ((tgL (((togS ((ls.map prP).take k)) ++ (xo.take a).flatMap (fun j : Int => xi.map fun i => (i, j))) ++ (xi.take b).map (fun i => (i, yo)))).flatMap eBool), blk b5 61 [.slice ia xi.length ic, .slice (some ⟨ob, oo, none⟩) xo.length oc], blk b1 32 [.slice none 0 0, .int .i64 0, .slice none 0 0]]) (fun b => xi.length - b) 0 (Nat.zero_le _) ⟨rfl, rfl, rfl, rfl, rfl, rfl, rfl, rfl, rfl, rfl, rfl, rfl, rfl, rfl, rfl, rfl, trivial⟩ (fun _ hs => by have h1 := (((hs.pull (.there (.there .here))).pull (.there (.there .here))).pull (.there (.there .here))); (try dsimp only); rw [show (((togS ((ls.map prP).take k)) ++ (xo.take a).flatMap (fun j : Int => xi.map fun i => (i, j))) ++ (xi.take 0).map (fun i => (i, yo))) = ((togS ((ls.map prP).take k)) ++ (xo.take a).flatMap (fun j : Int => xi.map fun i => (i, j))) from List.append_nil _]; exact h1) ?_
                    intro b hI
                    have hIb := hI
                    refine Cd.seq ?_
                    refine Cd.region ?_
                    by_cases hb : (b : Int) < (xi.length : Int)
                    · refine Ops.q (q_cmp rfl rfl (c_lt hb)) ?_
                      obtain ⟨zi, hz⟩ : ∃ x, xi[b]? = some x := ⟨_, List.getElem?_eq_getElem (by omega)⟩
                      obtain ⟨ib, io, rfl⟩ := RoL.pos hxe eInt_len hz
                      have hzw := setE_ok hse0 zi (List.mem_iff_getElem?.2 ⟨b, hz⟩)
                      unfold wi at hzw
                      obtain ⟨zn, hzn⟩ : ∃ j : Nat, zi = (j : Int) := ⟨zi.toNat, by omega⟩
                      refine Ops.to rfl ?_
                      refine Cd.seq ?_
                      refine Cd.cond_t rfl ?_
                      refine Cd.skipTo rfl ?_
                      refine Cd.seq ?_
                      refine Cd.block ?_
                      refine Cd.seq ?_
                      refine Cd.region ?_
                      refine Ops.q (q_ix (k := b) esz_26 rfl rfl (by omega)) ?_
                      refine Ops.q (q_ldR isA_3 rfl (hxe.at0 eInt_len hz rfl)) ?_
                      refine Ops.q (q_asg rfl) ?_
                      refine Ops.to rfl ?_
                      refine Cd.region ?_
                      refine Ops.q (q_mv rfl) ?_
                      refine Ops.q (q_mv rfl) ?_
                      refine Ops.q (q_ixA (k := yn) asz_135 rfl (show some (Value.int .i64 yo) = some (.int .i64 (yn : Int)) from by rw [hyn]) (by omega)) ?_
                      refine Ops.q (q_ixA (k := zn) asz_134 rfl (show some (Value.int .i64 zi) = some (.int .i64 (zn : Int)) from by rw [hzn]) (by omega)) ?_
                      refine Ops.stB [.bool true] ((tgL ((((togS ((ls.map prP).take k)) ++ (xo.take a).flatMap (fun j : Int => xi.map fun i => (i, j))) ++ (xi.take b).map (fun i => (i, yo))) ++ [((zn : Int), (yn : Int))])).flatMap eBool) sz_4 rfl rfl rfl (one rfl) .here (ble_ok (by rw [tg_len]; simp only [List.length_cons, List.length_nil]; omega)) (tg_set (by omega) (by omega)) ?_
                      refine Ops.to rfl ?_
                      refine Cd.region ?_
                      refine Ops.q (q_ar rfl rfl (a_inc (by omega))) ?_
                      refine Ops.q (q_mv rfl) ?_
                      refine Ops.rnd (b + 1) rfl (by omega) (by omega) ⟨rfl, rfl, rfl, rfl, rfl, rfl, rfl, rfl, rfl, rfl, rfl, rfl, rfl, rfl, rfl, rfl, trivial⟩ (fun _ hs => by have h1 := (((hs.pull (.there (.there .here))).pull (.there (.there .here))).pull (.there (.there .here))); rw [← hzn, ← hyn] at h1; (try dsimp only); rw [mapT _ hz, ← List.append_assoc]; exact h1) 
                    · refine Ops.q (q_cmp rfl rfl (c_nlt (by omega))) ?_
                      refine Ops.to rfl ?_
                      refine Cd.seq ?_
                      refine Cd.cond_f rfl ?_
                      refine Cd.exitTo rfl ?_
                      refine Cd.region ?_
                      refine Ops.q (q_ar rfl rfl (a_inc (by omega))) ?_
                      refine Ops.q (q_mv rfl) ?_
                      refine Ops.rnd (a + 1) rfl (by omega) (by omega) ⟨rfl, rfl, rfl, rfl, rfl, rfl, rfl, rfl, rfl, rfl, rfl, rfl, trivial⟩ (fun _ hs => by have h1 := (((hs.pull (.there (.there .here))).pull (.there (.there .here))).pull (.there (.there .here))); rw [List.take_of_length_le (show xi.length ≤ b by omega)] at h1; (try dsimp only); rw [fmT36 _ hy, ← List.append_assoc]; exact h1) 
                  · refine Ops.q (q_cmp rfl rfl (c_nlt (by omega))) ?_
                    refine Ops.to rfl ?_
                    refine Cd.seq ?_
                    refine Cd.cond_f rfl ?_
                    refine Cd.exitTo rfl ?_
                    refine Cd.region ?_
                    refine Ops.q (q_ar rfl rfl (a_inc (by omega))) ?_
                    refine Ops.q (q_mv rfl) ?_
                    refine Ops.rnd (k + 1) rfl (⟨by omega, by rw [← hIk.2]; exact (firstE_step hxq (memE_0 hse0 hso0)).symm⟩) (by omega) ⟨rfl, rfl, rfl, rfl, rfl, rfl, rfl, rfl, trivial⟩ (fun _ hs => by have h1 := (((hs.pull (.there (.there .here))).pull (.there .here)).pull (.there (.there .here))).drop; rw [List.take_of_length_le (show xo.length ≤ a by omega)] at h1; (try dsimp only); rw [togS_step hxq]; exact h1) 
                · refine Ops.q (q_cmp rfl rfl (c_ne hso0)) ?_
                  refine Ops.q (q_pickF rfl rfl) ?_
                  refine Ops.q (q_asg rfl) ?_
                  refine Ops.to rfl ?_
                  refine Cd.cond_t rfl ?_
                  refine Cd.seq ?_
                  refine Cd.region ?_
                  refine Ops.q (q_bld [.slice none 0 0, .int .i64 0, .slice none 0 0] pls_32 zc_32 rfl rfl) ?_
                  refine Ops.stB [.slice none 0 0, .int .i64 0, .slice none 0 0] [.slice none 0 0, .int .i64 0, .slice none 0 0] sz_32 rfl rfl rfl (one rfl) (.there (.there (.there (.there .here)))) rfl rfl ?_
                  refine Ops.q (q_asg rfl) ?_
                  refine Ops.to rfl ?_
                  refine Cd.rt (fn := Try.f28) [.agg [.slice none 0 0, .int .i64 0, .slice none 0 0].toArray, .int .i64 5] (by with_reducible repeat (first | exact rq_here | apply rq_then | apply rq_block)) rfl ⟨⟨_, _, rfl, fun _ hs => run_loadN isA_32 sz_32 (fun o u hu => Sat.atB (.there (.there (.there (.there .here)))) (by rw [Nat.zero_add]; exact hu) hs)⟩, rfl, trivial⟩ ?_
                  intro w' hs'
                  have h8 : memE (m : Int) (n : Int) (xi, xo) = 5 := memE_5 (by simp_all) (by simp_all)
                  have h9 : firstE (memE (m : Int) (n : Int)) (ls.map prP) = 5 := by rw [← hI.2, firstE_stop hxq (by rw [h8]; decide), h8]
                  rw [show memP (m : Int) (n : Int) (ls.map prP) = .error (5) by unfold memP; rw [if_pos hwmn, if_neg (by rw [List.length_map]; omega), h9, if_pos (by decide)]]
                  exact ⟨rfl, hs'.none⟩
              · refine Ops.q (q_cmp rfl rfl (c_ne hse0)) ?_
                refine Ops.q (q_mv rfl) ?_
                refine Ops.sk ?_
                refine Ops.sk ?_
                refine Ops.q (q_pickT rfl rfl) ?_
                refine Ops.q (q_asg rfl) ?_
                refine Ops.to rfl ?_
                refine Cd.cond_t rfl ?_
                refine Cd.seq ?_
                refine Cd.region ?_
                refine Ops.q (q_bld [.slice none 0 0, .int .i64 0, .slice none 0 0] pls_32 zc_32 rfl rfl) ?_
                refine Ops.stB [.slice none 0 0, .int .i64 0, .slice none 0 0] [.slice none 0 0, .int .i64 0, .slice none 0 0] sz_32 rfl rfl rfl (one rfl) (.there (.there (.there (.there .here)))) rfl rfl ?_
                refine Ops.q (q_asg rfl) ?_
                refine Ops.to rfl ?_
                refine Cd.rt (fn := Try.f28) [.agg [.slice none 0 0, .int .i64 0, .slice none 0 0].toArray, .int .i64 5] (by with_reducible repeat (first | exact rq_here | apply rq_then | apply rq_block)) rfl ⟨⟨_, _, rfl, fun _ hs => run_loadN isA_32 sz_32 (fun o u hu => Sat.atB (.there (.there (.there (.there .here)))) (by rw [Nat.zero_add]; exact hu) hs)⟩, rfl, trivial⟩ ?_
                intro w' hs'
                have h8 : memE (m : Int) (n : Int) (xi, xo) = 5 := memE_5 (by simp_all) (by simp_all)
                have h9 : firstE (memE (m : Int) (n : Int)) (ls.map prP) = 5 := by rw [← hI.2, firstE_stop hxq (by rw [h8]; decide), h8]
                rw [show memP (m : Int) (n : Int) (ls.map prP) = .error (5) by unfold memP; rw [if_pos hwmn, if_neg (by rw [List.length_map]; omega), h9, if_pos (by decide)]]
                exact ⟨rfl, hs'.none⟩
        · refine Ops.q (q_cmp rfl rfl (c_nlt (by omega))) ?_
          have h9 : firstE (memE (m : Int) (n : Int)) (ls.map prP) = 0 := by rw [← hI.2, firstE_end (by rw [List.length_map]; omega)]
          refine Ops.to rfl ?_
          refine Cd.seq ?_
          refine Cd.cond_f rfl ?_
          refine Cd.exitTo rfl ?_
          refine Cd.seq ?_
          refine Cd.region ?_
          refine Ops.q (q_mv rfl) ?_
          refine Ops.q (q_ar (v := ((m + 1 : Nat) : Int)) rfl rfl (a_inc (by omega))) ?_
          refine Ops.q (q_bld [.slice none 0 0, .int .i64 ((m + 1 : Nat) : Int), .slice none 0 0] pls_32 zc_32 rfl rfl) ?_
          refine Ops.q (q_bld [.slice none 0 0, .int .i64 ((m + 1 : Nat) : Int), .slice none 0 0] pls_114 zc_114 rfl rfl) ?_
          refine Ops.alc [.slice none 0 0, .int .i64 0, .slice none 0 0] zc_114 ?_
          intro b13
          refine Ops.stB [.slice none 0 0, .int .i64 ((m + 1 : Nat) : Int), .slice none 0 0] [.slice none 0 0, .int .i64 ((m + 1 : Nat) : Int), .slice none 0 0] sz_114 rfl rfl rfl (one rfl) .here rfl rfl ?_
          refine Ops.to rfl ?_
          refine Cd.seq ?_
          refine Cd.nilRow 126 4 ?_
          refine Cd.nilRow 116 8 ?_
          change Cd _ _ _ _ _ _ _ _ ([row none 0 116 8 (([] : List Prm).length) (([] : List Prm).flatMap ePrm), row none 0 126 4 (([] : List Syn).length) (([] : List Syn).flatMap eSyn), blk b13 114 [.slice none (([] : List Prm).length) 0, .int .i64 ((m + 1 : Nat) : Int), .slice none (([] : List Syn).length) 0], blk tbl 135 ((tgL (togS ((ls.map prP).take k))).flatMap eBool), blk b1 32 [.slice none 0 0, .int .i64 0, .slice none 0 0]])
          refine Cd.region ?_
          refine Ops.cp en_48 rfl (fun w hs => gate_c w) ?_
          refine Ops.cl (α := Nat × Nat) (v := fun x => .func (.func 86) #[] #[.pointer (some ⟨x.1, 0, none⟩), .pointer (some ⟨x.2, 0, none⟩)]) (B := fun x => [blk x.1 116 (ePrm (gateP 0)), blk x.2 161 [.pointer (some ⟨b13, 0, none⟩)]]) en_49 rfl (fun w hs => grow_c b13 (gateP 0) w) ?_
          rintro ⟨pb14, bb15⟩
          refine Ops.lit [.int .i64 1] el_26 zsb_3 rfl rfl ⟨by decide, by decide⟩ rfl ?_
          intro b16
          refine Ops.q (q_mv rfl) ?_
          refine Ops.cm (α := Option Addr × Nat) (v := fun p => .slice p.1 (List.replicate n (1 : Int)).length p.2) (A' := fun p => row p.1 p.2 3 1 (List.replicate n (1 : Int)).length ((List.replicate n (1 : Int)).flatMap eInt) :: [row (some ⟨b16, 0, none⟩) 1 3 1 1 [.int .i64 1], blk pb14 116 (ePrm (gateP 0)), blk bb15 161 [.pointer (some ⟨b13, 0, none⟩)], row none 0 116 8 (([] : List Prm).length) (([] : List Prm).flatMap ePrm), row none 0 126 4 (([] : List Syn).length) (([] : List Syn).flatMap eSyn), blk b13 114 [.slice none (([] : List Prm).length) 0, .int .i64 ((m + 1 : Nat) : Int), .slice none (([] : List Syn).length) 0], blk tbl 135 ((tgL (togS ((ls.map prP).take k))).flatMap eBool), blk b1 32 [.slice none 0 0, .int .i64 0, .slice none 0 0]]) en_52 rfl (fun w hs => repeat_l b16 1 n _ w _ (by omega) (((((((((hs.pull (.there (.there (.there (.there (.there (.there (.there .here)))))))).pull (.there (.there (.there (.there (.there (.there (.there .here)))))))).pull (.there (.there (.there (.there (.there (.there (.there .here)))))))).pull (.there (.there (.there (.there (.there (.there (.there .here)))))))).pull (.there (.there (.there (.there (.there (.there (.there .here)))))))).pull (.there (.there (.there (.there (.there (.there (.there .here)))))))).pull (.there (.there (.there (.there (.there (.there (.there .here)))))))).pull (.there (.there (.there (.there (.there (.there (.there .here)))))))))) ?_
          rintro ⟨a17, c18⟩
          refine Ops.cv (α := Option Addr × Nat) (k := 86) (first := []) (caps := [.pointer (some ⟨pb14, 0, none⟩), .pointer (some ⟨bb15, 0, none⟩)]) (vs := [.slice a17 ((List.replicate n (1 : Int)).length) c18]) (v := fun _ => .tuple #[]) (A' := fun p => [blk b13 114 [.slice p.1 ((([] : List Prm) ++ (List.replicate n (1 : Int)).map (setTh (gateP 0))).length) p.2, .int .i64 ((m + 1 : Nat) : Int), .slice none (([] : List Syn).length) 0], row p.1 p.2 116 8 ((([] : List Prm) ++ (List.replicate n (1 : Int)).map (setTh (gateP 0))).length) ((([] : List Prm) ++ (List.replicate n (1 : Int)).map (setTh (gateP 0))).flatMap ePrm), row none 0 126 4 (([] : List Syn).length) (([] : List Syn).flatMap eSyn), blk pb14 116 (ePrm (gateP 0)), blk bb15 161 [.pointer (some ⟨b13, 0, none⟩)], row a17 c18 3 1 ((List.replicate n (1 : Int)).length) ((List.replicate n (1 : Int)).flatMap eInt), row (some ⟨b16, 0, none⟩) 1 3 1 1 [.int .i64 1], blk tbl 135 ((tgL (togS ((ls.map prP).take k))).flatMap eBool), blk b1 32 [.slice none 0 0, .int .i64 0, .slice none 0 0]]) en_86 rfl rfl (fun w hs => grown_c b13 _ _ _ _ ([] : List Prm) _ ([] : List Syn) pb14 bb15 _ _ (List.replicate n (1 : Int)) _ _ w _ (by simp only [List.length_append, List.length_map, List.length_take, List.length_cons, List.length_nil, List.length_replicate]; omega) ((((((((((hs.pull (.there (.there (.there (.there (.there (.there (.there (.there .here))))))))).pull (.there (.there (.there (.there (.there (.there (.there (.there .here))))))))).pull (.there (.there (.there .here)))).pull (.there (.there (.there .here)))).pull (.there (.there (.there (.there (.there .here)))))).pull (.there (.there (.there (.there (.there .here)))))).pull (.there (.there (.there (.there (.there (.there (.there .here)))))))).pull (.there (.there (.there (.there (.there (.there (.there .here)))))))).pull (.there (.there (.there (.there (.there (.there (.there (.there .here))))))))))) ?_
          rintro ⟨a19, c20⟩
          refine Ops.to rfl ?_
          refine Cd.seq ?_
          refine Cd.seq ?_
          refine Cd.region ?_
          refine Ops.q (q_mv rfl) ?_
          refine Ops.q (q_mv rfl) ?_
          refine Ops.to rfl ?_
          refine Cd.block ?_
          refine Cd.lp (σ := Nat × Option Addr × Nat) (fun s => s.1 ≤ n) (fun s => [(0, .int .i64 (m : Int)), (1, .int .i64 (n : Int)), (6, .pointer (some ⟨b1, 0, none⟩)), (8, .pointer (some ⟨tbl, 0, none⟩)), (17, .pointer (some ⟨b13, 0, none⟩)), (99, .int .i64 (n : Int)), (100, .int .i64 (s.1 : Int))]) (fun s => [blk b13 114 [.slice a19 ((([] : List Prm) ++ (List.replicate n (1 : Int)).map (setTh (gateP 0))).length) c20, .int .i64 ((m + 1 : Nat) : Int), .slice s.2.1 ((([] : List Syn) ++ memTo m (togS ((ls.map prP).take k)) s.1).length) s.2.2], row a19 c20 116 8 ((([] : List Prm) ++ (List.replicate n (1 : Int)).map (setTh (gateP 0))).length) ((([] : List Prm) ++ (List.replicate n (1 : Int)).map (setTh (gateP 0))).flatMap ePrm), row s.2.1 s.2.2 126 4 ((([] : List Syn) ++ memTo m (togS ((ls.map prP).take k)) s.1).length) ((([] : List Syn) ++ memTo m (togS ((ls.map prP).take k)) s.1).flatMap eSyn), blk tbl 135 ((tgL (togS ((ls.map prP).take k))).flatMap eBool), blk b1 32 [.slice none 0 0, .int .i64 0, .slice none 0 0]]) (fun s => n - s.1) (0, none, 0) (Nat.zero_le _) ⟨rfl, rfl, rfl, rfl, rfl, rfl, rfl, trivial⟩ (fun _ hs => by have h1 := (((((((((hs.pull (.there (.there (.there (.there (.there (.there (.there (.there .here))))))))).pull (.there (.there (.there (.there (.there (.there (.there (.there .here))))))))).pull (.there (.there (.there (.there .here))))).pull (.there (.there (.there (.there .here))))).pull (.there (.there (.there (.there .here))))).pull (.there (.there (.there (.there (.there .here)))))).drop.pull (.there (.there (.there (.there (.there .here)))))).drop.pull (.there (.there (.there (.there (.there .here)))))).drop.pull (.there (.there (.there (.there (.there .here)))))).drop; dsimp only; rw [show (([] : List Syn) ++ memTo m (togS ((ls.map prP).take k)) 0) = ([] : List Syn) from List.append_nil _]; exact h1) ?_
          rintro ⟨j, qa, qc⟩ hI
          dsimp only at hI
          change Cd _ _ _ _ _ _ _ [(0, .int .i64 (m : Int)), (1, .int .i64 (n : Int)), (6, .pointer (some ⟨b1, 0, none⟩)), (8, .pointer (some ⟨tbl, 0, none⟩)), (17, .pointer (some ⟨b13, 0, none⟩)), (99, .int .i64 (n : Int)), (100, .int .i64 (j : Int))] ([blk b13 114 [.slice a19 ((([] : List Prm) ++ (List.replicate n (1 : Int)).map (setTh (gateP 0))).length) c20, .int .i64 ((m + 1 : Nat) : Int), .slice qa ((([] : List Syn) ++ memTo m (togS ((ls.map prP).take k)) j).length) qc], row a19 c20 116 8 ((([] : List Prm) ++ (List.replicate n (1 : Int)).map (setTh (gateP 0))).length) ((([] : List Prm) ++ (List.replicate n (1 : Int)).map (setTh (gateP 0))).flatMap ePrm), row qa qc 126 4 ((([] : List Syn) ++ memTo m (togS ((ls.map prP).take k)) j).length) ((([] : List Syn) ++ memTo m (togS ((ls.map prP).take k)) j).flatMap eSyn), blk tbl 135 ((tgL (togS ((ls.map prP).take k))).flatMap eBool), blk b1 32 [.slice none 0 0, .int .i64 0, .slice none 0 0]])
          refine Cd.seq ?_
          refine Cd.region ?_
          by_cases hj0 : (j : Int) < (n : Int)
          · refine Ops.q (q_cmp rfl rfl (c_lt hj0)) ?_
            have hml := memTo_len m (togS ((ls.map prP).take k)) j
            have hjm : j * (m + 1) ≤ 64 * 65 := Nat.mul_le_mul (by omega) (by omega)
            refine Ops.to rfl ?_
            refine Cd.seq ?_
            refine Cd.cond_t rfl ?_
            refine Cd.skipTo rfl ?_
            refine Cd.seq ?_
            refine Cd.block ?_
            refine Cd.seq ?_
            refine Cd.region ?_
            refine Ops.q (q_mv rfl) ?_
            refine Ops.q (q_asg rfl) ?_
            refine Ops.to rfl ?_
            refine Cd.seq ?_
            refine Cd.region ?_
            refine Ops.q (q_mv rfl) ?_
            refine Ops.q (q_mv rfl) ?_
            refine Ops.cm (α := Option Addr × Nat) (v := fun _ => .tuple #[]) (A' := fun p => [blk b13 114 [.slice a19 ((([] : List Prm) ++ (List.replicate n (1 : Int)).map (setTh (gateP 0))).length) c20, .int .i64 ((m + 1 : Nat) : Int), .slice p.1 (((([] : List Syn) ++ memTo m (togS ((ls.map prP).take k)) j) ++ [(⟨-1 - (m : Int), (j : Int), 1, 1⟩ : Syn)]).length) p.2], row a19 c20 116 8 ((([] : List Prm) ++ (List.replicate n (1 : Int)).map (setTh (gateP 0))).length) ((([] : List Prm) ++ (List.replicate n (1 : Int)).map (setTh (gateP 0))).flatMap ePrm), row p.1 p.2 126 4 (((([] : List Syn) ++ memTo m (togS ((ls.map prP).take k)) j) ++ [(⟨-1 - (m : Int), (j : Int), 1, 1⟩ : Syn)]).length) (((([] : List Syn) ++ memTo m (togS ((ls.map prP).take k)) j) ++ [(⟨-1 - (m : Int), (j : Int), 1, 1⟩ : Syn)]).flatMap eSyn), blk tbl 135 ((tgL (togS ((ls.map prP).take k))).flatMap eBool), blk b1 32 [.slice none 0 0, .int .i64 0, .slice none 0 0]]) en_51 rfl (fun w hs => feed_c _ _ _ _ _ (([] : List Prm) ++ (List.replicate n (1 : Int)).map (setTh (gateP 0))) _ (([] : List Syn) ++ memTo m (togS ((ls.map prP).take k)) j) (m : Int) (j : Int) 1 1 _ w _ (by simp only [List.length_append, List.length_cons, List.length_nil]; omega) (by omega) ((((((hs.pull (.there (.there (.there (.there .here))))).pull (.there (.there (.there (.there .here))))).pull (.there (.there (.there (.there .here))))).pull (.there (.there (.there (.there .here))))).pull (.there (.there (.there (.there .here))))))) ?_
            rintro ⟨a21, c22⟩
            refine Ops.to rfl ?_
            refine Cd.seq ?_
            refine Cd.region ?_
            refine Ops.q (q_mv rfl) ?_
            refine Ops.q (q_ixA (k := j) asz_135 rfl rfl (by omega)) ?_
            refine Ops.q (q_mv rfl) ?_
            refine Ops.q (q_cutA (k := m) asz_134 rfl rfl (by omega)) ?_
            refine Ops.q (q_len esz_23 rfl) ?_
            refine Ops.q (q_mv rfl) ?_
            refine Ops.to rfl ?_
            refine Cd.block ?_
            refine Cd.lp (σ := Nat × Option Addr × Nat) (fun s => s.1 ≤ m) (fun s => [(0, .int .i64 (m : Int)), (1, .int .i64 (n : Int)), (6, .pointer (some ⟨b1, 0, none⟩)), (8, .pointer (some ⟨tbl, 0, none⟩)), (17, .pointer (some ⟨b13, 0, none⟩)), (99, .int .i64 (n : Int)), (100, .int .i64 (j : Int)), (18, .int .i64 (j : Int)), (109, .slice (some ⟨tbl, 0 + j * 64, none⟩) m 64), (110, .int .i64 (m : Int)), (111, .int .i64 (s.1 : Int))]) (fun s => [blk b13 114 [.slice a19 ((([] : List Prm) ++ (List.replicate n (1 : Int)).map (setTh (gateP 0))).length) c20, .int .i64 ((m + 1 : Nat) : Int), .slice s.2.1 ((((([] : List Syn) ++ memTo m (togS ((ls.map prP).take k)) j) ++ [(⟨-1 - (m : Int), (j : Int), 1, 1⟩ : Syn)]) ++ memRow m (togS ((ls.map prP).take k)) j s.1).length) s.2.2], row a19 c20 116 8 ((([] : List Prm) ++ (List.replicate n (1 : Int)).map (setTh (gateP 0))).length) ((([] : List Prm) ++ (List.replicate n (1 : Int)).map (setTh (gateP 0))).flatMap ePrm), row s.2.1 s.2.2 126 4 ((((([] : List Syn) ++ memTo m (togS ((ls.map prP).take k)) j) ++ [(⟨-1 - (m : Int), (j : Int), 1, 1⟩ : Syn)]) ++ memRow m (togS ((ls.map prP).take k)) j s.1).length) ((((([] : List Syn) ++ memTo m (togS ((ls.map prP).take k)) j) ++ [(⟨-1 - (m : Int), (j : Int), 1, 1⟩ : Syn)]) ++ memRow m (togS ((ls.map prP).take k)) j s.1).flatMap eSyn), blk tbl 135 ((tgL (togS ((ls.map prP).take k))).flatMap eBool), blk b1 32 [.slice none 0 0, .int .i64 0, .slice none 0 0]]) (fun s => m - s.1) (0, a21, c22) (Nat.zero_le _) ⟨rfl, rfl, rfl, rfl, rfl, rfl, rfl, rfl, rfl, rfl, rfl, trivial⟩ (fun _ hs => by have h1 := (((((hs.pull (.there (.there (.there (.there .here))))).pull (.there (.there (.there (.there .here))))).pull (.there (.there (.there (.there .here))))).pull (.there (.there (.there (.there .here))))).pull (.there (.there (.there (.there .here))))); dsimp only; rw [show (((([] : List Syn) ++ memTo m (togS ((ls.map prP).take k)) j) ++ [(⟨-1 - (m : Int), (j : Int), 1, 1⟩ : Syn)]) ++ memRow m (togS ((ls.map prP).take k)) j 0) = ((([] : List Syn) ++ memTo m (togS ((ls.map prP).take k)) j) ++ [(⟨-1 - (m : Int), (j : Int), 1, 1⟩ : Syn)]) from List.append_nil _]; exact h1) ?_
            rintro ⟨i, ra, rc⟩ hI
            dsimp only at hI
            change Cd _ _ _ _ _ _ _ [(0, .int .i64 (m : Int)), (1, .int .i64 (n : Int)), (6, .pointer (some ⟨b1, 0, none⟩)), (8, .pointer (some ⟨tbl, 0, none⟩)), (17, .pointer (some ⟨b13, 0, none⟩)), (99, .int .i64 (n : Int)), (100, .int .i64 (j : Int)), (18, .int .i64 (j : Int)), (109, .slice (some ⟨tbl, 0 + j * 64, none⟩) m 64), (110, .int .i64 (m : Int)), (111, .int .i64 (i : Int))] ([blk b13 114 [.slice a19 ((([] : List Prm) ++ (List.replicate n (1 : Int)).map (setTh (gateP 0))).length) c20, .int .i64 ((m + 1 : Nat) : Int), .slice ra ((((([] : List Syn) ++ memTo m (togS ((ls.map prP).take k)) j) ++ [(⟨-1 - (m : Int), (j : Int), 1, 1⟩ : Syn)]) ++ memRow m (togS ((ls.map prP).take k)) j i).length) rc], row a19 c20 116 8 ((([] : List Prm) ++ (List.replicate n (1 : Int)).map (setTh (gateP 0))).length) ((([] : List Prm) ++ (List.replicate n (1 : Int)).map (setTh (gateP 0))).flatMap ePrm), row ra rc 126 4 ((((([] : List Syn) ++ memTo m (togS ((ls.map prP).take k)) j) ++ [(⟨-1 - (m : Int), (j : Int), 1, 1⟩ : Syn)]) ++ memRow m (togS ((ls.map prP).take k)) j i).length) ((((([] : List Syn) ++ memTo m (togS ((ls.map prP).take k)) j) ++ [(⟨-1 - (m : Int), (j : Int), 1, 1⟩ : Syn)]) ++ memRow m (togS ((ls.map prP).take k)) j i).flatMap eSyn), blk tbl 135 ((tgL (togS ((ls.map prP).take k))).flatMap eBool), blk b1 32 [.slice none 0 0, .int .i64 0, .slice none 0 0]])
            refine Cd.seq ?_
            refine Cd.region ?_
            by_cases hi0 : (i : Int) < (m : Int)
            · refine Ops.q (q_cmp rfl rfl (c_lt hi0)) ?_
              have hrl := memRow_len m (togS ((ls.map prP).take k)) j i
              refine Ops.to rfl ?_
              refine Cd.seq ?_
              refine Cd.cond_t rfl ?_
              refine Cd.skipTo rfl ?_
              refine Cd.seq ?_
              refine Cd.block ?_
              refine Cd.seq ?_
              refine Cd.region ?_
              refine Ops.q (q_mv rfl) ?_
              refine Ops.q (q_ix (k := i) esz_23 rfl rfl (by omega)) ?_
              by_cases hin : ((i : Int), (j : Int)) ∈ (togS ((ls.map prP).take k))
              · refine Ops.q (q_ldB (v := .bool true) isA_4 rfl (.there (.there (.there .here))) (by rw [tg_get (by omega) (by omega)]; simp [hin])) ?_
                refine Ops.q (q_asg rfl) ?_
                refine Ops.q (q_asg rfl) ?_
                refine Ops.to rfl ?_
                refine Cd.seq ?_
                refine Cd.region ?_
                refine Ops.q (q_mv rfl) ?_
                refine Ops.q (q_not rfl) ?_
                refine Ops.to rfl ?_
                refine Cd.cond_f rfl ?_
                refine Cd.skipTo rfl ?_
                refine Cd.region ?_
                refine Ops.q (q_ar rfl rfl (a_inc (by omega))) ?_
                refine Ops.q (q_mv rfl) ?_
                refine Ops.rnd ((i + 1, ra, rc)) rfl (by dsimp only; exact (by omega)) (by dsimp only; omega) ⟨rfl, rfl, rfl, rfl, rfl, rfl, rfl, rfl, rfl, rfl, rfl, trivial⟩ (fun _ hs => by have h1 := (((((hs.pull (.there (.there (.there (.there .here))))).pull (.there (.there (.there (.there .here))))).pull (.there (.there (.there (.there .here))))).pull (.there (.there (.there (.there .here))))).pull (.there (.there (.there (.there .here))))); dsimp only; rw [memRow_step, memCell, if_pos hin, List.append_nil]; exact h1) 
              · refine Ops.q (q_ldB (v := .bool false) isA_4 rfl (.there (.there (.there .here))) (by rw [tg_get (by omega) (by omega)]; simp [hin])) ?_
                refine Ops.q (q_asg rfl) ?_
                refine Ops.q (q_asg rfl) ?_
                refine Ops.to rfl ?_
                refine Cd.seq ?_
                refine Cd.region ?_
                refine Ops.q (q_mv rfl) ?_
                refine Ops.q (q_not rfl) ?_
                refine Ops.to rfl ?_
                refine Cd.cond_t rfl ?_
                refine Cd.region ?_
                refine Ops.q (q_mv rfl) ?_
                refine Ops.q (q_mv rfl) ?_
                refine Ops.cm (α := Option Addr × Nat) (v := fun _ => .tuple #[]) (A' := fun p => [blk b13 114 [.slice a19 ((([] : List Prm) ++ (List.replicate n (1 : Int)).map (setTh (gateP 0))).length) c20, .int .i64 ((m + 1 : Nat) : Int), .slice p.1 (((((([] : List Syn) ++ memTo m (togS ((ls.map prP).take k)) j) ++ [(⟨-1 - (m : Int), (j : Int), 1, 1⟩ : Syn)]) ++ memRow m (togS ((ls.map prP).take k)) j i) ++ [(⟨-1 - (i : Int), (j : Int), -1, 1⟩ : Syn)]).length) p.2], row a19 c20 116 8 ((([] : List Prm) ++ (List.replicate n (1 : Int)).map (setTh (gateP 0))).length) ((([] : List Prm) ++ (List.replicate n (1 : Int)).map (setTh (gateP 0))).flatMap ePrm), row p.1 p.2 126 4 (((((([] : List Syn) ++ memTo m (togS ((ls.map prP).take k)) j) ++ [(⟨-1 - (m : Int), (j : Int), 1, 1⟩ : Syn)]) ++ memRow m (togS ((ls.map prP).take k)) j i) ++ [(⟨-1 - (i : Int), (j : Int), -1, 1⟩ : Syn)]).length) (((((([] : List Syn) ++ memTo m (togS ((ls.map prP).take k)) j) ++ [(⟨-1 - (m : Int), (j : Int), 1, 1⟩ : Syn)]) ++ memRow m (togS ((ls.map prP).take k)) j i) ++ [(⟨-1 - (i : Int), (j : Int), -1, 1⟩ : Syn)]).flatMap eSyn), blk tbl 135 ((tgL (togS ((ls.map prP).take k))).flatMap eBool), blk b1 32 [.slice none 0 0, .int .i64 0, .slice none 0 0]]) en_51 rfl (fun w hs => feed_c _ _ _ _ _ (([] : List Prm) ++ (List.replicate n (1 : Int)).map (setTh (gateP 0))) _ (((([] : List Syn) ++ memTo m (togS ((ls.map prP).take k)) j) ++ [(⟨-1 - (m : Int), (j : Int), 1, 1⟩ : Syn)]) ++ memRow m (togS ((ls.map prP).take k)) j i) (i : Int) (j : Int) (-1) 1 _ w _ (by simp only [List.length_append, List.length_cons, List.length_nil]; omega) (by omega) ((((((hs.pull (.there (.there (.there (.there .here))))).pull (.there (.there (.there (.there .here))))).pull (.there (.there (.there (.there .here))))).pull (.there (.there (.there (.there .here))))).pull (.there (.there (.there (.there .here))))))) ?_
                rintro ⟨a23, c24⟩
                refine Ops.to rfl ?_
                refine Cd.region ?_
                refine Ops.q (q_ar rfl rfl (a_inc (by omega))) ?_
                refine Ops.q (q_mv rfl) ?_
                refine Ops.rnd ((i + 1, a23, c24)) rfl (by dsimp only; exact (by omega)) (by dsimp only; omega) ⟨rfl, rfl, rfl, rfl, rfl, rfl, rfl, rfl, rfl, rfl, rfl, trivial⟩ (fun _ hs => by have h1 := (((((hs.pull (.there (.there (.there (.there .here))))).pull (.there (.there (.there (.there .here))))).pull (.there (.there (.there (.there .here))))).pull (.there (.there (.there (.there .here))))).pull (.there (.there (.there (.there .here))))); dsimp only; rw [memRow_step, memCell, if_neg hin]; exact h1) 
            · refine Ops.q (q_cmp rfl rfl (c_nlt (by omega))) ?_
              refine Ops.to rfl ?_
              refine Cd.seq ?_
              refine Cd.cond_f rfl ?_
              refine Cd.exitTo rfl ?_
              refine Cd.region ?_
              refine Ops.q (q_ar rfl rfl (a_inc (by omega))) ?_
              refine Ops.q (q_mv rfl) ?_
              refine Ops.rnd ((j + 1, ra, rc)) rfl (by dsimp only; exact (by omega)) (by dsimp only; omega) ⟨rfl, rfl, rfl, rfl, rfl, rfl, rfl, trivial⟩ (fun _ hs => by have h1 := (((((hs.pull (.there (.there (.there (.there .here))))).pull (.there (.there (.there (.there .here))))).pull (.there (.there (.there (.there .here))))).pull (.there (.there (.there (.there .here))))).pull (.there (.there (.there (.there .here))))); have hie : i = m := (by omega); rw [hie] at h1; dsimp only; rw [memTo_step]; exact h1) 
          · refine Ops.q (q_cmp rfl rfl (c_nlt (by omega))) ?_
            refine Ops.to rfl ?_
            refine Cd.seq ?_
            refine Cd.cond_f rfl ?_
            refine Cd.exitTo rfl ?_
            refine Cd.seq ?_
            refine Cd.region ?_
            refine Ops.q (q_fa fo_114_0 rfl) ?_
            refine Ops.q (q_ldBN [.slice a19 ((([] : List Prm) ++ (List.replicate n (1 : Int)).map (setTh (gateP 0))).length) c20, .int .i64 ((m + 1 : Nat) : Int), .slice qa ((([] : List Syn) ++ memTo m (togS ((ls.map prP).take k)) j).length) qc] isA_32 sz_32 rfl .here rfl) ?_
            refine Ops.stB [.slice a19 ((([] : List Prm) ++ (List.replicate n (1 : Int)).map (setTh (gateP 0))).length) c20, .int .i64 ((m + 1 : Nat) : Int), .slice qa ((([] : List Syn) ++ memTo m (togS ((ls.map prP).take k)) j).length) qc] [.slice a19 ((([] : List Prm) ++ (List.replicate n (1 : Int)).map (setTh (gateP 0))).length) c20, .int .i64 ((m + 1 : Nat) : Int), .slice qa ((([] : List Syn) ++ memTo m (togS ((ls.map prP).take k)) j).length) qc] sz_32 rfl rfl rfl (one rfl) (.there (.there (.there (.there .here)))) rfl rfl ?_
            refine Ops.q (q_asg rfl) ?_
            refine Ops.to rfl ?_
            refine Cd.rt (fn := Try.f28) [.agg [.slice a19 ((([] : List Prm) ++ (List.replicate n (1 : Int)).map (setTh (gateP 0))).length) c20, .int .i64 ((m + 1 : Nat) : Int), .slice qa ((([] : List Syn) ++ memTo m (togS ((ls.map prP).take k)) j).length) qc].toArray, .int .i64 0] (by with_reducible repeat (first | exact rq_here | apply rq_then | apply rq_block)) rfl ⟨⟨_, _, rfl, fun _ hs => run_loadN isA_32 sz_32 (fun o u hu => Sat.atB (.there (.there (.there (.there .here)))) (by rw [Nat.zero_add]; exact hu) hs)⟩, rfl, trivial⟩ ?_
            intro w' hs'
            have hj : j = n := by omega
            rw [hj, List.take_of_length_le (show (ls.map prP).length ≤ k from (by rw [List.length_map]; omega))] at hs'
            have hP : memP (m : Int) (n : Int) (ls.map prP) = .ok ⟨(([] : List Prm) ++ (List.replicate n (1 : Int)).map (setTh (gateP 0))), ((m + 1 : Nat) : Int), (([] : List Syn) ++ memTo m (togS (ls.map prP)) n)⟩ := by unfold memP; rw [if_pos hwmn, if_neg (by rw [List.length_map]; omega), h9, if_neg (by decide)]; simp only [List.nil_append, List.map_replicate, Int.toNat_natCast]; rfl
            rw [hP]
            exact ⟨(a19, c20), (qa, qc), by rw [hj, List.take_of_length_le (show (ls.map prP).length ≤ k from (by rw [List.length_map]; omega))]; rfl, (((((hs'.pull (.there (.there .here))).pull (.there (.there .here))).pull (.there (.there .here))).drop.pull (.there (.there .here))).drop.pull (.there (.there .here))).drop⟩
    · refine Ops.cp en_57 rfl (fun w hs => dF (in_c _ _ _ w) h3) ?_
      refine Ops.q (q_not rfl) ?_
      refine Ops.q (q_pickF rfl rfl) ?_
      refine Ops.q (q_asg rfl) ?_
      refine Ops.to rfl ?_
      refine Cd.cond_t rfl ?_
      refine Cd.seq ?_
      refine Cd.region ?_
      refine Ops.q (q_bld [.slice none 0 0, .int .i64 0, .slice none 0 0] pls_32 zc_32 rfl rfl) ?_
      refine Ops.stB [.slice none 0 0, .int .i64 0, .slice none 0 0] [.slice none 0 0, .int .i64 0, .slice none 0 0] sz_32 rfl rfl rfl (one rfl) .here rfl rfl ?_
      refine Ops.q (q_asg rfl) ?_
      refine Ops.to rfl ?_
      refine Cd.rt (fn := Try.f28) [.agg [.slice none 0 0, .int .i64 0, .slice none 0 0].toArray, .int .i64 3] (by with_reducible repeat (first | exact rq_here | apply rq_then | apply rq_block)) rfl ⟨⟨_, _, rfl, fun _ hs => run_loadN isA_32 sz_32 (fun o u hu => Sat.atB .here (by rw [Nat.zero_add]; exact hu) hs)⟩, rfl, trivial⟩ ?_
      intro w' hs'
      rw [show memP mi ni (ls.map prP) = .error 3 by unfold memP; rw [if_neg (fun h => by first | exact h3 h.1 | exact h3 h.2)]]
      exact ⟨rfl, hs'.none⟩
  · refine Ops.cp en_57 rfl (fun w hs => dF (in_c _ _ _ w) h2) ?_
    refine Ops.q (q_not rfl) ?_
    refine Ops.q (q_mv rfl) ?_
    refine Ops.sk ?_
    refine Ops.sk ?_
    refine Ops.sk ?_
    refine Ops.q (q_pickT rfl rfl) ?_
    refine Ops.q (q_asg rfl) ?_
    refine Ops.to rfl ?_
    refine Cd.cond_t rfl ?_
    refine Cd.seq ?_
    refine Cd.region ?_
    refine Ops.q (q_bld [.slice none 0 0, .int .i64 0, .slice none 0 0] pls_32 zc_32 rfl rfl) ?_
    refine Ops.stB [.slice none 0 0, .int .i64 0, .slice none 0 0] [.slice none 0 0, .int .i64 0, .slice none 0 0] sz_32 rfl rfl rfl (one rfl) .here rfl rfl ?_
    refine Ops.q (q_asg rfl) ?_
    refine Ops.to rfl ?_
    refine Cd.rt (fn := Try.f28) [.agg [.slice none 0 0, .int .i64 0, .slice none 0 0].toArray, .int .i64 3] (by with_reducible repeat (first | exact rq_here | apply rq_then | apply rq_block)) rfl ⟨⟨_, _, rfl, fun _ hs => run_loadN isA_32 sz_32 (fun o u hu => Sat.atB .here (by rw [Nat.zero_add]; exact hu) hs)⟩, rfl, trivial⟩ ?_
    intro w' hs'
    rw [show memP mi ni (ls.map prP) = .error 3 by unfold memP; rw [if_neg (fun h => by first | exact h2 h.1 | exact h2 h.2)]]
    exact ⟨rfl, hs'.none⟩
theorem tog_b {ps : List (List Int × List Int)} {k : Nat} {p : List Int × List Int} {i j : Int} (h : ps[k]? = some p) : decide ((i, j) ∈ togS (ps.take (k + 1))) = (decide ((i, j) ∈ togS (ps.take k)) || (decide (i ∈ p.1) && decide (j ∈ p.2))) := by
  rw [togS_step h]
  have : (i, j) ∈ prodS p ↔ i ∈ p.1 ∧ j ∈ p.2 := by
    unfold prodS
    simp only [List.mem_flatMap, List.mem_map, Prod.mk.injEq]
    constructor
    · rintro ⟨y, hy, x, hx, rfl, rfl⟩; exact ⟨hx, hy⟩
    · rintro ⟨hx, hy⟩; exact ⟨j, hy, i, hx, rfl, rfl⟩
  rw [Bool.eq_iff_iff]
  simp [this]
theorem rmemory_c (mi ni : Int) (la : Option Addr) (lc : Nat) (ls : List PR) (w : World) (hL : RoPR w la ls) (hlen : ∀ l ∈ ls, l.1.2.length ≤ 1000000 ∧ l.2.2.length ≤ 1000000) (hcap : ∀ l ∈ ls, l.1.2.length ≤ l.1.1.2 ∧ l.2.2.length ≤ l.2.1.2) : Calls Try.prog 29 [.int .i64 mi, .int .i64 ni, .slice la ls.length lc].toArray w (RetR (memP mi ni (ls.map prP)) w) := by
  refine fstart Try.func29 rfl rfl (Sat.nil w) ?_
  refine Cd.seq ?_
  refine Cd.region ?_
  refine Ops.alc [.slice none 0 0, .int .i64 0, .slice none 0 0] zc_32 ?_
  intro b1
  refine Ops.q (q_asg rfl) ?_
  refine Ops.to rfl ?_
  refine Cd.seq ?_
  refine Cd.seq ?_
  refine Cd.region ?_
  refine Ops.q (q_mv rfl) ?_
  by_cases h2 : wi mi 1 64
  · refine Ops.cp en_59 rfl (fun w hs => dT (rwithin_c _ _ _ w) h2) ?_
    refine Ops.q (q_not rfl) ?_
    refine Ops.q (q_mv rfl) ?_
    refine Ops.q (q_mv rfl) ?_
    by_cases h3 : wi ni 1 64
    · refine Ops.cp en_59 rfl (fun w hs => dT (rwithin_c _ _ _ w) h3) ?_
      refine Ops.q (q_not rfl) ?_
      refine Ops.q (q_pickF rfl rfl) ?_
      refine Ops.to rfl ?_
      refine Cd.cond_f rfl ?_
      refine Cd.skipTo rfl ?_
      refine Cd.seq ?_
      refine Cd.seq ?_
      refine Cd.region ?_
      have hwm : wi mi 1 64 := h2
      have hwn : wi ni 1 64 := h3
      obtain ⟨m, rfl⟩ : ∃ j : Nat, mi = (j : Int) := ⟨mi.toNat, by unfold wi at hwm; omega⟩
      obtain ⟨n, rfl⟩ : ∃ j : Nat, ni = (j : Int) := ⟨ni.toNat, by unfold wi at hwn; omega⟩
      have hm : 1 ≤ m ∧ m ≤ 64 := by unfold wi at hwm; omega
      have hn : 1 ≤ n ∧ n ≤ 64 := by unfold wi at hwn; omega
      have hwmn : wi (m : Int) 1 64 ∧ wi (n : Int) 1 64 := ⟨hwm, hwn⟩
      refine Ops.q (q_mv rfl) ?_
      refine Ops.q (q_len esz_51 rfl) ?_
      by_cases h4 : 256 < (ls.length : Int)
      · refine Ops.q (q_cmp rfl rfl (c_gt h4)) ?_
        refine Ops.to rfl ?_
        refine Cd.cond_t rfl ?_
        refine Cd.seq ?_
        refine Cd.region ?_
        refine Ops.q (q_bld [.slice none 0 0, .int .i64 0, .slice none 0 0] pls_32 zc_32 rfl rfl) ?_
        refine Ops.stB [.slice none 0 0, .int .i64 0, .slice none 0 0] [.slice none 0 0, .int .i64 0, .slice none 0 0] sz_32 rfl rfl rfl (one rfl) .here rfl rfl ?_
        refine Ops.q (q_asg rfl) ?_
        refine Ops.to rfl ?_
        refine Cd.rt (fn := Try.f29) [.agg [.slice none 0 0, .int .i64 0, .slice none 0 0].toArray, .int .i64 9] (by with_reducible repeat (first | exact rq_here | apply rq_then | apply rq_block)) rfl ⟨⟨_, _, rfl, fun _ hs => run_loadN isA_32 sz_32 (fun o u hu => Sat.atB .here (by rw [Nat.zero_add]; exact hu) hs)⟩, rfl, trivial⟩ ?_
        intro w' hs'
        rw [show memP (m : Int) (n : Int) (ls.map prP) = .error 9 by unfold memP; rw [if_pos hwmn, if_pos (by rw [List.length_map]; omega)]]
        exact ⟨rfl, hs'.none⟩
      · refine Ops.q (q_cmp rfl rfl (c_ngt (by omega))) ?_
        refine Ops.to rfl ?_
        refine Cd.cond_f rfl ?_
        refine Cd.skipTo rfl ?_
        refine Cd.seq ?_
        refine Cd.seq ?_
        refine Cd.region ?_
        refine Ops.q (q_asg rfl) ?_
        refine Ops.to rfl ?_
        refine Cd.block ?_
        refine Cd.lp (σ := Nat) (fun k => k ≤ ls.length ∧ firstE (memE (m : Int) (n : Int)) ((ls.map prP).drop k) = firstE (memE (m : Int) (n : Int)) (ls.map prP)) (fun k => [(0, .int .i64 (m : Int)), (1, .int .i64 (n : Int)), (2, .slice la ls.length lc), (6, .pointer (some ⟨b1, 0, none⟩)), (8, .int .i64 (k : Int))]) (fun k => [blk b1 32 [.slice none 0 0, .int .i64 0, .slice none 0 0]]) (fun k => ls.length - k) 0 ⟨Nat.zero_le _, rfl⟩ ⟨rfl, rfl, rfl, rfl, rfl, trivial⟩ (fun _ hs => by have h1 := (hs.pull .here); (try dsimp only); exact h1) ?_
        intro k hI
        have hI1 := hI.1
        have hIk := hI
        refine Cd.seq ?_
        refine Cd.seq ?_
        refine Cd.region ?_
        refine Ops.q (q_mv rfl) ?_
        refine Ops.q (q_mv rfl) ?_
        refine Ops.q (q_len esz_51 rfl) ?_
        by_cases hk : (k : Int) < (ls.length : Int)
        · refine Ops.q (q_cmp rfl rfl (c_lt hk)) ?_
          obtain ⟨⟨⟨⟨ia, ic⟩, xi⟩, ⟨⟨oa, oc⟩, xo⟩⟩, hx⟩ : ∃ x, ls[k]? = some x := ⟨_, List.getElem?_eq_getElem (by omega)⟩
          have hxm := List.mem_iff_getElem?.2 ⟨k, hx⟩
          have hxe : RoL w ia eInt xi := (hL.2 _ hxm).1
          have hxo : RoL w oa eInt xo := (hL.2 _ hxm).2
          have hxl : xi.length ≤ 1000000 ∧ xo.length ≤ 1000000 := hlen _ hxm
          have hxc : xi.length ≤ ic ∧ xo.length ≤ oc := hcap _ hxm
          have hxq : (ls.map prP)[k]? = some (xi, xo) := by rw [List.getElem?_map, hx]; rfl
          obtain ⟨lb, lo, rfl⟩ := RoL.pos hL.1 ePr_len hx
          refine Ops.to rfl ?_
          refine Cd.cond_t rfl ?_
          refine Cd.skipTo rfl ?_
          refine Cd.seq ?_
          refine Cd.block ?_
          refine Cd.seq ?_
          refine Cd.draw rfl (by kernel_rfl) .nil ?_
          intro F5 St6 hP7 hF8 hR9
          refine Dr.q (i := 0) hP7 rfl (by kernel_rfl) (q_mv rfl) ?_
          refine Dr.q (i := 1) hP7 rfl (by kernel_rfl) (q_mv rfl) ?_
          refine Dr.q (i := 2) hP7 rfl (by kernel_rfl) (q_ix (k := k) esz_51 rfl rfl (by omega)) ?_
          refine Dr.q (i := 3) hP7 rfl (by kernel_rfl) (q_fa fo_60_0 rfl) ?_
          refine Dr.q (i := 4) hP7 rfl (by kernel_rfl) (q_ldR (v := .slice ia xi.length ic) isA_26 rfl (hL.1.at ePr_len hx rfl)) ?_
          refine Dr.q (i := 5) hP7 rfl (by kernel_rfl) (q_mv rfl) ?_
          refine Dr.q (i := 7) hP7 rfl (by kernel_rfl) (q_mv rfl) ?_
          refine Dr.q (i := 8) hP7 rfl (by kernel_rfl) (q_mv rfl) ?_
          refine Dr.q (i := 9) hP7 rfl (by kernel_rfl) (q_ix (k := k) esz_51 rfl rfl (by omega)) ?_
          refine Dr.q (i := 10) hP7 rfl (by kernel_rfl) (q_fa fo_60_1 rfl) ?_
          refine Dr.q (i := 11) hP7 rfl (by kernel_rfl) (q_ldR (v := .slice oa xo.length oc) isA_26 rfl (hL.1.at ePr_len hx rfl)) ?_
          refine Dr.q (i := 12) hP7 rfl (by kernel_rfl) (q_mv rfl) ?_
          refine Dr.e (i := 6) rfl (by kernel_rfl) ?_
          refine Ops.cp en_66 rfl (fun w hs => set_c _ _ xi (m : Int) w (hxe.later hs.below) hxl.1 hxc.1 (by omega)) ?_
          refine Dr.back (fun _ hs => hF8 .here hs) ?_
          refine Dr.e (i := 13) rfl (by kernel_rfl) ?_
          refine Ops.cp en_66 rfl (fun w hs => set_c _ _ xo (n : Int) w (hxo.later hs.below) hxl.2 hxc.2 (by omega)) ?_
          refine Dr.back (fun _ hs => hF8 .here hs) ?_
          refine Dr.q (i := 14) hP7 rfl (by kernel_rfl) (q_asg rfl) ?_
          refine Dr.tail 15 (by kernel_rfl) ?_
          refine Ops.sat ?_ (fun _ hs => hR9 .here hs)
          refine Ops.q (q_asg rfl) ?_
          refine Ops.to rfl ?_
          refine Cd.seq ?_
          refine Cd.seq ?_
          refine Cd.region ?_
          refine Ops.q (q_mv rfl) ?_
          by_cases he4 : setE (m : Int) xi = 4
          · refine Ops.q (q_cmp rfl rfl (c_eq he4)) ?_
            refine Ops.q (q_mv rfl) ?_
            refine Ops.sk ?_
            refine Ops.sk ?_
            refine Ops.q (q_pickT rfl rfl) ?_
            refine Ops.to rfl ?_
            refine Cd.cond_t rfl ?_
            refine Cd.seq ?_
            refine Cd.region ?_
            refine Ops.q (q_bld [.slice none 0 0, .int .i64 0, .slice none 0 0] pls_32 zc_32 rfl rfl) ?_
            refine Ops.stB [.slice none 0 0, .int .i64 0, .slice none 0 0] [.slice none 0 0, .int .i64 0, .slice none 0 0] sz_32 rfl rfl rfl (one rfl) .here rfl rfl ?_
            refine Ops.q (q_asg rfl) ?_
            refine Ops.to rfl ?_
            refine Cd.rt (fn := Try.f29) [.agg [.slice none 0 0, .int .i64 0, .slice none 0 0].toArray, .int .i64 4] (by with_reducible repeat (first | exact rq_here | apply rq_then | apply rq_block)) rfl ⟨⟨_, _, rfl, fun _ hs => run_loadN isA_32 sz_32 (fun o u hu => Sat.atB .here (by rw [Nat.zero_add]; exact hu) hs)⟩, rfl, trivial⟩ ?_
            intro w' hs'
            have h8 : memE (m : Int) (n : Int) (xi, xo) = 4 := memE_4 (by simp_all)
            have h9 : firstE (memE (m : Int) (n : Int)) (ls.map prP) = 4 := by rw [← hI.2, firstE_stop hxq (by rw [h8]; decide), h8]
            rw [show memP (m : Int) (n : Int) (ls.map prP) = .error (4) by unfold memP; rw [if_pos hwmn, if_neg (by rw [List.length_map]; omega), h9, if_pos (by decide)]]
            exact ⟨rfl, hs'.none⟩
          · refine Ops.q (q_cmp rfl rfl (c_neq he4)) ?_
            refine Ops.q (q_mv rfl) ?_
            refine Ops.q (q_mv rfl) ?_
            by_cases ho4 : setE (n : Int) xo = 4
            · refine Ops.q (q_cmp rfl rfl (c_eq ho4)) ?_
              refine Ops.q (q_pickF rfl rfl) ?_
              refine Ops.to rfl ?_
              refine Cd.cond_t rfl ?_
              refine Cd.seq ?_
              refine Cd.region ?_
              refine Ops.q (q_bld [.slice none 0 0, .int .i64 0, .slice none 0 0] pls_32 zc_32 rfl rfl) ?_
              refine Ops.stB [.slice none 0 0, .int .i64 0, .slice none 0 0] [.slice none 0 0, .int .i64 0, .slice none 0 0] sz_32 rfl rfl rfl (one rfl) .here rfl rfl ?_
              refine Ops.q (q_asg rfl) ?_
              refine Ops.to rfl ?_
              refine Cd.rt (fn := Try.f29) [.agg [.slice none 0 0, .int .i64 0, .slice none 0 0].toArray, .int .i64 4] (by with_reducible repeat (first | exact rq_here | apply rq_then | apply rq_block)) rfl ⟨⟨_, _, rfl, fun _ hs => run_loadN isA_32 sz_32 (fun o u hu => Sat.atB .here (by rw [Nat.zero_add]; exact hu) hs)⟩, rfl, trivial⟩ ?_
              intro w' hs'
              have h8 : memE (m : Int) (n : Int) (xi, xo) = 4 := memE_4 (by simp_all)
              have h9 : firstE (memE (m : Int) (n : Int)) (ls.map prP) = 4 := by rw [← hI.2, firstE_stop hxq (by rw [h8]; decide), h8]
              rw [show memP (m : Int) (n : Int) (ls.map prP) = .error (4) by unfold memP; rw [if_pos hwmn, if_neg (by rw [List.length_map]; omega), h9, if_pos (by decide)]]
              exact ⟨rfl, hs'.none⟩
            · refine Ops.q (q_cmp rfl rfl (c_neq ho4)) ?_
              refine Ops.q (q_pickF rfl rfl) ?_
              refine Ops.to rfl ?_
              refine Cd.cond_f rfl ?_
              refine Cd.skipTo rfl ?_
              refine Cd.seq ?_
              refine Cd.region ?_
              refine Ops.q (q_mv rfl) ?_
              by_cases hse0 : setE (m : Int) xi = 0
              · refine Ops.q (q_cmp rfl rfl (c_nne hse0)) ?_
                refine Ops.q (q_mv rfl) ?_
                refine Ops.q (q_mv rfl) ?_
                by_cases hso0 : setE (n : Int) xo = 0
                · refine Ops.q (q_cmp rfl rfl (c_nne hso0)) ?_
                  refine Ops.q (q_pickF rfl rfl) ?_
                  refine Ops.to rfl ?_
                  refine Cd.cond_f rfl ?_
                  refine Cd.skipTo rfl ?_
                  refine Cd.region ?_
                  refine Ops.q (q_mv rfl) ?_
                  refine Ops.q (q_ar rfl rfl (a_inc (by omega))) ?_
                  refine Ops.q (q_asg rfl) ?_
                  refine Ops.rnd (k + 1) rfl (⟨by omega, by rw [← hIk.2]; exact (firstE_step hxq (memE_0 hse0 hso0)).symm⟩) (by omega) ⟨rfl, rfl, rfl, rfl, rfl, trivial⟩ (fun _ hs => (hs.pull .here)) 
                · refine Ops.q (q_cmp rfl rfl (c_ne hso0)) ?_
                  refine Ops.q (q_pickF rfl rfl) ?_
                  refine Ops.to rfl ?_
                  refine Cd.cond_t rfl ?_
                  refine Cd.seq ?_
                  refine Cd.region ?_
                  refine Ops.q (q_bld [.slice none 0 0, .int .i64 0, .slice none 0 0] pls_32 zc_32 rfl rfl) ?_
                  refine Ops.stB [.slice none 0 0, .int .i64 0, .slice none 0 0] [.slice none 0 0, .int .i64 0, .slice none 0 0] sz_32 rfl rfl rfl (one rfl) .here rfl rfl ?_
                  refine Ops.q (q_asg rfl) ?_
                  refine Ops.to rfl ?_
                  refine Cd.rt (fn := Try.f29) [.agg [.slice none 0 0, .int .i64 0, .slice none 0 0].toArray, .int .i64 5] (by with_reducible repeat (first | exact rq_here | apply rq_then | apply rq_block)) rfl ⟨⟨_, _, rfl, fun _ hs => run_loadN isA_32 sz_32 (fun o u hu => Sat.atB .here (by rw [Nat.zero_add]; exact hu) hs)⟩, rfl, trivial⟩ ?_
                  intro w' hs'
                  have h8 : memE (m : Int) (n : Int) (xi, xo) = 5 := memE_5 (by simp_all) (by simp_all)
                  have h9 : firstE (memE (m : Int) (n : Int)) (ls.map prP) = 5 := by rw [← hI.2, firstE_stop hxq (by rw [h8]; decide), h8]
                  rw [show memP (m : Int) (n : Int) (ls.map prP) = .error (5) by unfold memP; rw [if_pos hwmn, if_neg (by rw [List.length_map]; omega), h9, if_pos (by decide)]]
                  exact ⟨rfl, hs'.none⟩
              · refine Ops.q (q_cmp rfl rfl (c_ne hse0)) ?_
                refine Ops.q (q_mv rfl) ?_
                refine Ops.sk ?_
                refine Ops.sk ?_
                refine Ops.q (q_pickT rfl rfl) ?_
                refine Ops.to rfl ?_
                refine Cd.cond_t rfl ?_
                refine Cd.seq ?_
                refine Cd.region ?_
                refine Ops.q (q_bld [.slice none 0 0, .int .i64 0, .slice none 0 0] pls_32 zc_32 rfl rfl) ?_
                refine Ops.stB [.slice none 0 0, .int .i64 0, .slice none 0 0] [.slice none 0 0, .int .i64 0, .slice none 0 0] sz_32 rfl rfl rfl (one rfl) .here rfl rfl ?_
                refine Ops.q (q_asg rfl) ?_
                refine Ops.to rfl ?_
                refine Cd.rt (fn := Try.f29) [.agg [.slice none 0 0, .int .i64 0, .slice none 0 0].toArray, .int .i64 5] (by with_reducible repeat (first | exact rq_here | apply rq_then | apply rq_block)) rfl ⟨⟨_, _, rfl, fun _ hs => run_loadN isA_32 sz_32 (fun o u hu => Sat.atB .here (by rw [Nat.zero_add]; exact hu) hs)⟩, rfl, trivial⟩ ?_
                intro w' hs'
                have h8 : memE (m : Int) (n : Int) (xi, xo) = 5 := memE_5 (by simp_all) (by simp_all)
                have h9 : firstE (memE (m : Int) (n : Int)) (ls.map prP) = 5 := by rw [← hI.2, firstE_stop hxq (by rw [h8]; decide), h8]
                rw [show memP (m : Int) (n : Int) (ls.map prP) = .error (5) by unfold memP; rw [if_pos hwmn, if_neg (by rw [List.length_map]; omega), h9, if_pos (by decide)]]
                exact ⟨rfl, hs'.none⟩
        · refine Ops.q (q_cmp rfl rfl (c_nlt (by omega))) ?_
          have h9 : firstE (memE (m : Int) (n : Int)) (ls.map prP) = 0 := by rw [← hI.2, firstE_end (by rw [List.length_map]; omega)]
          refine Ops.to rfl ?_
          refine Cd.cond_f rfl ?_
          refine Cd.exitTo rfl ?_
          refine Cd.seq ?_
          refine Cd.region ?_
          refine Ops.q (q_mv rfl) ?_
          refine Ops.q (q_ar (v := ((m + 1 : Nat) : Int)) rfl rfl (a_inc (by omega))) ?_
          refine Ops.q (q_bld [.slice none 0 0, .int .i64 ((m + 1 : Nat) : Int), .slice none 0 0] pls_32 zc_32 rfl rfl) ?_
          refine Ops.alc [.slice none 0 0, .int .i64 0, .slice none 0 0] zc_32 ?_
          intro b10
          refine Ops.stB [.slice none 0 0, .int .i64 ((m + 1 : Nat) : Int), .slice none 0 0] [.slice none 0 0, .int .i64 ((m + 1 : Nat) : Int), .slice none 0 0] sz_32 rfl rfl rfl (one rfl) .here rfl rfl ?_
          refine Ops.to rfl ?_
          refine Cd.seq ?_
          refine Cd.seq ?_
          refine Cd.nilRow 126 4 ?_
          refine Cd.nilRow 116 8 ?_
          change Cd _ _ _ _ _ _ _ _ ([row none 0 116 8 (([] : List Prm).length) (([] : List Prm).flatMap ePrm), row none 0 126 4 (([] : List Syn).length) (([] : List Syn).flatMap eSyn), blk b10 32 [.slice none (([] : List Prm).length) 0, .int .i64 ((m + 1 : Nat) : Int), .slice none (([] : List Syn).length) 0], blk b1 32 [.slice none 0 0, .int .i64 0, .slice none 0 0]])
          refine Cd.region ?_
          refine Ops.q (q_asg rfl) ?_
          refine Ops.to rfl ?_
          refine Cd.block ?_
          refine Cd.lp (σ := Nat × Option Addr × Nat) (fun s => s.1 ≤ n) (fun s => [(0, .int .i64 (m : Int)), (1, .int .i64 (n : Int)), (2, .slice la ls.length lc), (6, .pointer (some ⟨b1, 0, none⟩)), (11, .pointer (some ⟨b10, 0, none⟩)), (12, .int .i64 (s.1 : Int))]) (fun s => [blk b10 32 [.slice s.2.1 ((List.replicate s.1 (gateP 1)).length) s.2.2, .int .i64 ((m + 1 : Nat) : Int), .slice none (([] : List Syn).length) 0], row s.2.1 s.2.2 116 8 ((List.replicate s.1 (gateP 1)).length) ((List.replicate s.1 (gateP 1)).flatMap ePrm), row none 0 126 4 (([] : List Syn).length) (([] : List Syn).flatMap eSyn), blk b1 32 [.slice none 0 0, .int .i64 0, .slice none 0 0]]) (fun s => n - s.1) (0, none, 0) (Nat.zero_le _) ⟨rfl, rfl, rfl, rfl, rfl, rfl, trivial⟩ (fun _ hs => by have h1 := ((((hs.pull (.there (.there (.there .here)))).pull (.there (.there .here))).pull (.there (.there .here))).pull (.there (.there (.there .here)))); (try dsimp only); exact h1) ?_
          rintro ⟨i, pa, pc⟩ hI
          dsimp only at hI
          change Cd _ _ _ _ _ _ _ [(0, .int .i64 (m : Int)), (1, .int .i64 (n : Int)), (2, .slice la ls.length lc), (6, .pointer (some ⟨b1, 0, none⟩)), (11, .pointer (some ⟨b10, 0, none⟩)), (12, .int .i64 (i : Int))] ([blk b10 32 [.slice pa ((List.replicate i (gateP 1)).length) pc, .int .i64 ((m + 1 : Nat) : Int), .slice none (([] : List Syn).length) 0], row pa pc 116 8 ((List.replicate i (gateP 1)).length) ((List.replicate i (gateP 1)).flatMap ePrm), row none 0 126 4 (([] : List Syn).length) (([] : List Syn).flatMap eSyn), blk b1 32 [.slice none 0 0, .int .i64 0, .slice none 0 0]])
          refine Cd.seq ?_
          refine Cd.seq ?_
          refine Cd.region ?_
          refine Ops.q (q_mv rfl) ?_
          refine Ops.q (q_mv rfl) ?_
          by_cases hi0 : (i : Int) < (n : Int)
          · refine Ops.q (q_cmp rfl rfl (c_lt hi0)) ?_
            refine Ops.to rfl ?_
            refine Cd.cond_t rfl ?_
            refine Cd.skipTo rfl ?_
            refine Cd.seq ?_
            refine Cd.block ?_
            refine Cd.draw rfl (by kernel_rfl) (.cons .here .nil) ?_
            intro F11 St12 hP13 hF14 hR15
            refine Dr.q (i := 0) hP13 rfl (by kernel_rfl) (q_fa fo_32_0 rfl) ?_
            refine Dr.q (i := 1) hP13 rfl (by kernel_rfl) (q_ldB isA_29 rfl .here rfl) ?_
            refine Dr.e (i := 2) rfl (by kernel_rfl) ?_
            refine Ops.cp en_54 rfl (fun w hs => rgate_c 1 w) ?_
            refine Dr.back (fun _ hs => hF14 .here hs) ?_
            refine Dr.e (i := 3) rfl (by kernel_rfl) ?_
            refine Ops.lit [.int .i64 ((gateP 1).lk), .int .i64 ((gateP 1).leak), .int .i64 ((gateP 1).bias), .int .i64 ((gateP 1).th), .int .i64 ((gateP 1).rk), .int .i64 ((gateP 1).rs), .int .i64 ((gateP 1).fl), .int .i64 ((gateP 1).rest)] el_29 zsb_116 rfl rfl ⟨by decide, by decide⟩ rfl ?_
            intro b16
            refine Dr.back (fun _ hs => hF14 (.there .here) hs) ?_
            refine Dr.e (i := 4) rfl (by kernel_rfl) ?_
            refine Ops.app (news := [.int .i64 ((gateP 1).lk), .int .i64 ((gateP 1).leak), .int .i64 ((gateP 1).bias), .int .i64 ((gateP 1).th), .int .i64 ((gateP 1).rk), .int .i64 ((gateP 1).rs), .int .i64 ((gateP 1).fl), .int .i64 ((gateP 1).rest)]) el_29 zsb_116 (by decide) rfl rfl (fun _ hs => hs.ownRo .here) (fun _ hs => (hs.pull .here).drop) (fun _ _ => (.there .here)) rfl (one rfl) (by rw [List.length_replicate]; omega) (by rw [List.length_replicate]; omega) ?_
            intro a17 c18
            refine Dr.back (fun _ hs => hF14 .here hs) ?_
            refine Dr.tail 5 (by kernel_rfl) ?_
            refine Ops.sat ?_ (fun _ hs => hR15 .here hs)
            refine Ops.q (q_fa fo_32_0 rfl) ?_
            refine Ops.stB [.slice a17 (((List.replicate i (gateP 1)).length) + 1) c18] [.slice a17 (((List.replicate i (gateP 1)).length) + 1) c18, .int .i64 ((m + 1 : Nat) : Int), .slice none (([] : List Syn).length) 0] sz_29 rfl rfl rfl (one rfl) .here rfl rfl ?_
            refine Ops.to rfl ?_
            refine Cd.region ?_
            refine Ops.q (q_mv rfl) ?_
            refine Ops.q (q_ar rfl rfl (a_inc (by omega))) ?_
            refine Ops.q (q_asg rfl) ?_
            refine Ops.rnd ((i + 1, a17, c18)) rfl (by dsimp only; exact (by omega)) (by dsimp only; omega) ⟨rfl, rfl, rfl, rfl, rfl, rfl, trivial⟩ (fun _ hs => by have h1 := ((((hs.pull (.there (.there (.there .here)))).pull (.there (.there (.there .here)))).pull (.there (.there (.there .here)))).pull (.there (.there (.there .here)))); dsimp only; rw [List.replicate_succ', List.length_append, fm_app]; exact h1) 
          · refine Ops.q (q_cmp rfl rfl (c_nlt (by omega))) ?_
            have hie : i = n := by omega
            rw [hie]
            refine Ops.to rfl ?_
            refine Cd.cond_f rfl ?_
            refine Cd.exitTo rfl ?_
            refine Cd.seq ?_
            refine Cd.seq ?_
            refine Cd.region ?_
            refine Ops.q (q_asg rfl) ?_
            refine Ops.to rfl ?_
            refine Cd.block ?_
            refine Cd.lp (σ := Nat × Option Addr × Nat) (fun s => s.1 ≤ n) (fun s => [(0, .int .i64 (m : Int)), (1, .int .i64 (n : Int)), (2, .slice la ls.length lc), (6, .pointer (some ⟨b1, 0, none⟩)), (11, .pointer (some ⟨b10, 0, none⟩)), (13, .int .i64 (s.1 : Int))]) (fun s => [blk b10 32 [.slice pa ((List.replicate n (gateP 1)).length) pc, .int .i64 ((m + 1 : Nat) : Int), .slice s.2.1 ((([] : List Syn) ++ memTo m (togS (ls.map prP)) s.1).length) s.2.2], row pa pc 116 8 ((List.replicate n (gateP 1)).length) ((List.replicate n (gateP 1)).flatMap ePrm), row s.2.1 s.2.2 126 4 ((([] : List Syn) ++ memTo m (togS (ls.map prP)) s.1).length) ((([] : List Syn) ++ memTo m (togS (ls.map prP)) s.1).flatMap eSyn), blk b1 32 [.slice none 0 0, .int .i64 0, .slice none 0 0]]) (fun s => n - s.1) (0, none, 0) (Nat.zero_le _) ⟨rfl, rfl, rfl, rfl, rfl, rfl, trivial⟩ (fun _ hs => by have h1 := ((((hs.pull (.there (.there (.there .here)))).pull (.there (.there (.there .here)))).pull (.there (.there (.there .here)))).pull (.there (.there (.there .here)))); (try dsimp only); rw [show (([] : List Syn) ++ memTo m (togS (ls.map prP)) 0) = ([] : List Syn) from List.append_nil _]; exact h1) ?_
            rintro ⟨j, qa, qc⟩ hI
            dsimp only at hI
            change Cd _ _ _ _ _ _ _ [(0, .int .i64 (m : Int)), (1, .int .i64 (n : Int)), (2, .slice la ls.length lc), (6, .pointer (some ⟨b1, 0, none⟩)), (11, .pointer (some ⟨b10, 0, none⟩)), (13, .int .i64 (j : Int))] ([blk b10 32 [.slice pa ((List.replicate n (gateP 1)).length) pc, .int .i64 ((m + 1 : Nat) : Int), .slice qa ((([] : List Syn) ++ memTo m (togS (ls.map prP)) j).length) qc], row pa pc 116 8 ((List.replicate n (gateP 1)).length) ((List.replicate n (gateP 1)).flatMap ePrm), row qa qc 126 4 ((([] : List Syn) ++ memTo m (togS (ls.map prP)) j).length) ((([] : List Syn) ++ memTo m (togS (ls.map prP)) j).flatMap eSyn), blk b1 32 [.slice none 0 0, .int .i64 0, .slice none 0 0]])
            refine Cd.seq ?_
            refine Cd.seq ?_
            refine Cd.region ?_
            refine Ops.q (q_mv rfl) ?_
            refine Ops.q (q_mv rfl) ?_
            by_cases hj0 : (j : Int) < (n : Int)
            · refine Ops.q (q_cmp rfl rfl (c_lt hj0)) ?_
              have hml := memTo_len m (togS (ls.map prP)) j
              have hjm : j * (m + 1) ≤ 64 * 65 := Nat.mul_le_mul (by omega) (by omega)
              refine Ops.to rfl ?_
              refine Cd.cond_t rfl ?_
              refine Cd.skipTo rfl ?_
              refine Cd.seq ?_
              refine Cd.block ?_
              refine Cd.seq ?_
              refine Cd.draw rfl (by kernel_rfl) (.cons .here .nil) ?_
              intro F19 St20 hP21 hF22 hR23
              refine Dr.q (i := 0) hP21 rfl (by kernel_rfl) (q_ldBN [.slice pa ((List.replicate n (gateP 1)).length) pc, .int .i64 ((m + 1 : Nat) : Int), .slice qa ((([] : List Syn) ++ memTo m (togS (ls.map prP)) j).length) qc] isA_32 sz_32 rfl .here rfl) ?_
              refine Dr.q (i := 1) hP21 rfl (by kernel_rfl) (q_mv rfl) ?_
              refine Dr.q (i := 3) hP21 rfl (by kernel_rfl) (q_mv rfl) ?_
              refine Dr.e (i := 2) rfl (by kernel_rfl) ?_
              refine Ops.cp en_56 rfl (fun w hs => rinput_c (m : Int) w (by omega)) ?_
              refine Dr.back (fun _ hs => hF22 .here hs) ?_
              refine Dr.e (i := 4) rfl (by kernel_rfl) ?_
              refine Ops.cm (α := Option Addr × Nat) (v := fun p => .agg [.slice pa ((List.replicate n (gateP 1)).length) pc, .int .i64 ((m + 1 : Nat) : Int), .slice p.1 ((([] : List Syn) ++ memTo m (togS (ls.map prP)) j) ++ [(⟨-1 - (m : Int), (j : Int), 1, 1⟩ : Syn)]).length p.2].toArray) (A' := fun p => row p.1 p.2 126 4 ((([] : List Syn) ++ memTo m (togS (ls.map prP)) j) ++ [(⟨-1 - (m : Int), (j : Int), 1, 1⟩ : Syn)]).length (((([] : List Syn) ++ memTo m (togS (ls.map prP)) j) ++ [(⟨-1 - (m : Int), (j : Int), 1, 1⟩ : Syn)]).flatMap eSyn) :: [F19, row pa pc 116 8 ((List.replicate n (gateP 1)).length) ((List.replicate n (gateP 1)).flatMap ePrm), blk b1 32 [.slice none 0 0, .int .i64 0, .slice none 0 0]]) en_55 rfl (fun w hs => wire_c _ _ _ ((m + 1 : Nat) : Int) _ _ (([] : List Syn) ++ memTo m (togS (ls.map prP)) j) (-1 - (m : Int)) (j : Int) 1 1 _ w _ (by simp only [List.length_append, List.length_cons, List.length_nil]; omega) (((((hs.pull (.there (.there (.there .here)))).pull (.there (.there .here))).pull (.there (.there .here))).pull (.there (.there (.there .here)))))) ?_
              rintro ⟨a24, c25⟩
              refine Dr.back (fun _ hs => hF22 (.there .here) hs) ?_
              refine Dr.tail 5 (by kernel_rfl) ?_
              refine Ops.sat ?_ (fun _ hs => hR23 (.there .here) hs)
              refine Ops.stB [.slice pa ((List.replicate n (gateP 1)).length) pc, .int .i64 ((m + 1 : Nat) : Int), .slice a24 (((([] : List Syn) ++ memTo m (togS (ls.map prP)) j) ++ [(⟨-1 - (m : Int), (j : Int), 1, 1⟩ : Syn)]).length) c25] [.slice pa ((List.replicate n (gateP 1)).length) pc, .int .i64 ((m + 1 : Nat) : Int), .slice a24 (((([] : List Syn) ++ memTo m (togS (ls.map prP)) j) ++ [(⟨-1 - (m : Int), (j : Int), 1, 1⟩ : Syn)]).length) c25] sz_32 rfl rfl rfl (one rfl) .here rfl rfl ?_
              refine Ops.to rfl ?_
              refine Cd.seq ?_
              refine Cd.region ?_
              refine Ops.q (q_asg rfl) ?_
              refine Ops.to rfl ?_
              refine Cd.block ?_
              refine Cd.lp (σ := Nat × Option Addr × Nat) (fun s => s.1 ≤ m) (fun s => [(0, .int .i64 (m : Int)), (1, .int .i64 (n : Int)), (2, .slice la ls.length lc), (6, .pointer (some ⟨b1, 0, none⟩)), (11, .pointer (some ⟨b10, 0, none⟩)), (13, .int .i64 (j : Int)), (14, .int .i64 (s.1 : Int))]) (fun s => [blk b10 32 [.slice pa ((List.replicate n (gateP 1)).length) pc, .int .i64 ((m + 1 : Nat) : Int), .slice s.2.1 ((((([] : List Syn) ++ memTo m (togS (ls.map prP)) j) ++ [(⟨-1 - (m : Int), (j : Int), 1, 1⟩ : Syn)]) ++ memRow m (togS (ls.map prP)) j s.1).length) s.2.2], row pa pc 116 8 ((List.replicate n (gateP 1)).length) ((List.replicate n (gateP 1)).flatMap ePrm), row s.2.1 s.2.2 126 4 ((((([] : List Syn) ++ memTo m (togS (ls.map prP)) j) ++ [(⟨-1 - (m : Int), (j : Int), 1, 1⟩ : Syn)]) ++ memRow m (togS (ls.map prP)) j s.1).length) ((((([] : List Syn) ++ memTo m (togS (ls.map prP)) j) ++ [(⟨-1 - (m : Int), (j : Int), 1, 1⟩ : Syn)]) ++ memRow m (togS (ls.map prP)) j s.1).flatMap eSyn), blk b1 32 [.slice none 0 0, .int .i64 0, .slice none 0 0]]) (fun s => m - s.1) (0, a24, c25) (Nat.zero_le _) ⟨rfl, rfl, rfl, rfl, rfl, rfl, rfl, trivial⟩ (fun _ hs => by have h1 := ((((hs.pull (.there (.there (.there .here)))).pull (.there (.there .here))).pull (.there (.there (.there .here)))).pull (.there (.there (.there .here)))); (try dsimp only); rw [show (((([] : List Syn) ++ memTo m (togS (ls.map prP)) j) ++ [(⟨-1 - (m : Int), (j : Int), 1, 1⟩ : Syn)]) ++ memRow m (togS (ls.map prP)) j 0) = ((([] : List Syn) ++ memTo m (togS (ls.map prP)) j) ++ [(⟨-1 - (m : Int), (j : Int), 1, 1⟩ : Syn)]) from List.append_nil _]; exact h1) ?_
              rintro ⟨i, ra, rc⟩ hI
              dsimp only at hI
              change Cd _ _ _ _ _ _ _ [(0, .int .i64 (m : Int)), (1, .int .i64 (n : Int)), (2, .slice la ls.length lc), (6, .pointer (some ⟨b1, 0, none⟩)), (11, .pointer (some ⟨b10, 0, none⟩)), (13, .int .i64 (j : Int)), (14, .int .i64 (i : Int))] ([blk b10 32 [.slice pa ((List.replicate n (gateP 1)).length) pc, .int .i64 ((m + 1 : Nat) : Int), .slice ra ((((([] : List Syn) ++ memTo m (togS (ls.map prP)) j) ++ [(⟨-1 - (m : Int), (j : Int), 1, 1⟩ : Syn)]) ++ memRow m (togS (ls.map prP)) j i).length) rc], row pa pc 116 8 ((List.replicate n (gateP 1)).length) ((List.replicate n (gateP 1)).flatMap ePrm), row ra rc 126 4 ((((([] : List Syn) ++ memTo m (togS (ls.map prP)) j) ++ [(⟨-1 - (m : Int), (j : Int), 1, 1⟩ : Syn)]) ++ memRow m (togS (ls.map prP)) j i).length) ((((([] : List Syn) ++ memTo m (togS (ls.map prP)) j) ++ [(⟨-1 - (m : Int), (j : Int), 1, 1⟩ : Syn)]) ++ memRow m (togS (ls.map prP)) j i).flatMap eSyn), blk b1 32 [.slice none 0 0, .int .i64 0, .slice none 0 0]])
              refine Cd.seq ?_
              refine Cd.seq ?_
              refine Cd.region ?_
              refine Ops.q (q_mv rfl) ?_
              refine Ops.q (q_mv rfl) ?_
              by_cases hi1 : (i : Int) < (m : Int)
              · refine Ops.q (q_cmp rfl rfl (c_lt hi1)) ?_
                have hrl := memRow_len m (togS (ls.map prP)) j i
                refine Ops.to rfl ?_
                refine Cd.cond_t rfl ?_
                refine Cd.skipTo rfl ?_
                refine Cd.seq ?_
                refine Cd.block ?_
                refine Cd.seq ?_
                refine Cd.region ?_
                refine Ops.q (q_asg rfl) ?_
                refine Ops.to rfl ?_
                refine Cd.seq ?_
                refine Cd.seq ?_
                refine Cd.region ?_
                refine Ops.q (q_asg rfl) ?_
                refine Ops.to rfl ?_
                refine Cd.block ?_
                refine Cd.lp (σ := Nat × Bool) (fun s => s.1 ≤ ls.length ∧ s.2 = decide (((i : Int), (j : Int)) ∈ togS ((ls.map prP).take s.1))) (fun s => [(0, .int .i64 (m : Int)), (1, .int .i64 (n : Int)), (2, .slice la ls.length lc), (6, .pointer (some ⟨b1, 0, none⟩)), (11, .pointer (some ⟨b10, 0, none⟩)), (13, .int .i64 (j : Int)), (14, .int .i64 (i : Int)), (15, .bool s.2), (16, .int .i64 (s.1 : Int))]) (fun s => [blk b10 32 [.slice pa ((List.replicate n (gateP 1)).length) pc, .int .i64 ((m + 1 : Nat) : Int), .slice ra ((((([] : List Syn) ++ memTo m (togS (ls.map prP)) j) ++ [(⟨-1 - (m : Int), (j : Int), 1, 1⟩ : Syn)]) ++ memRow m (togS (ls.map prP)) j i).length) rc], row pa pc 116 8 ((List.replicate n (gateP 1)).length) ((List.replicate n (gateP 1)).flatMap ePrm), row ra rc 126 4 ((((([] : List Syn) ++ memTo m (togS (ls.map prP)) j) ++ [(⟨-1 - (m : Int), (j : Int), 1, 1⟩ : Syn)]) ++ memRow m (togS (ls.map prP)) j i).length) ((((([] : List Syn) ++ memTo m (togS (ls.map prP)) j) ++ [(⟨-1 - (m : Int), (j : Int), 1, 1⟩ : Syn)]) ++ memRow m (togS (ls.map prP)) j i).flatMap eSyn), blk b1 32 [.slice none 0 0, .int .i64 0, .slice none 0 0]]) (fun s => ls.length - s.1) (0, false) ⟨Nat.zero_le _, by simp [togS]⟩ ⟨rfl, rfl, rfl, rfl, rfl, rfl, rfl, rfl, rfl, trivial⟩ (fun _ hs => by have h1 := ((((hs.pull (.there (.there (.there .here)))).pull (.there (.there (.there .here)))).pull (.there (.there (.there .here)))).pull (.there (.there (.there .here)))); (try dsimp only); exact h1) ?_
                rintro ⟨kk, b⟩ hI
                dsimp only at hI
                change Cd _ _ _ _ _ _ _ [(0, .int .i64 (m : Int)), (1, .int .i64 (n : Int)), (2, .slice la ls.length lc), (6, .pointer (some ⟨b1, 0, none⟩)), (11, .pointer (some ⟨b10, 0, none⟩)), (13, .int .i64 (j : Int)), (14, .int .i64 (i : Int)), (15, .bool b), (16, .int .i64 (kk : Int))] ([blk b10 32 [.slice pa ((List.replicate n (gateP 1)).length) pc, .int .i64 ((m + 1 : Nat) : Int), .slice ra ((((([] : List Syn) ++ memTo m (togS (ls.map prP)) j) ++ [(⟨-1 - (m : Int), (j : Int), 1, 1⟩ : Syn)]) ++ memRow m (togS (ls.map prP)) j i).length) rc], row pa pc 116 8 ((List.replicate n (gateP 1)).length) ((List.replicate n (gateP 1)).flatMap ePrm), row ra rc 126 4 ((((([] : List Syn) ++ memTo m (togS (ls.map prP)) j) ++ [(⟨-1 - (m : Int), (j : Int), 1, 1⟩ : Syn)]) ++ memRow m (togS (ls.map prP)) j i).length) ((((([] : List Syn) ++ memTo m (togS (ls.map prP)) j) ++ [(⟨-1 - (m : Int), (j : Int), 1, 1⟩ : Syn)]) ++ memRow m (togS (ls.map prP)) j i).flatMap eSyn), blk b1 32 [.slice none 0 0, .int .i64 0, .slice none 0 0]])
                have hI8 := hI.1
                refine Cd.seq ?_
                refine Cd.seq ?_
                refine Cd.region ?_
                refine Ops.q (q_mv rfl) ?_
                refine Ops.q (q_mv rfl) ?_
                refine Ops.q (q_len esz_51 rfl) ?_
                by_cases hk8 : (kk : Int) < (ls.length : Int)
                · refine Ops.q (q_cmp rfl rfl (c_lt hk8)) ?_
                  obtain ⟨⟨⟨⟨ia, ic⟩, xi⟩, ⟨⟨oa, oc⟩, xo⟩⟩, hx⟩ : ∃ x, ls[kk]? = some x := ⟨_, List.getElem?_eq_getElem (by omega)⟩
                  have hxm := List.mem_iff_getElem?.2 ⟨kk, hx⟩
                  have hxe : RoL w ia eInt xi := (hL.2 _ hxm).1
                  have hxo : RoL w oa eInt xo := (hL.2 _ hxm).2
                  have hxl : xi.length ≤ 1000000 ∧ xo.length ≤ 1000000 := hlen _ hxm
                  have hxc : xi.length ≤ ic ∧ xo.length ≤ oc := hcap _ hxm
                  have hxq : (ls.map prP)[kk]? = some (xi, xo) := by rw [List.getElem?_map, hx]; rfl
                  obtain ⟨lb, lo, rfl⟩ := RoL.pos hL.1 ePr_len hx
                  refine Ops.to rfl ?_
                  refine Cd.cond_t rfl ?_
                  refine Cd.skipTo rfl ?_
                  refine Cd.seq ?_
                  refine Cd.block ?_
                  by_cases hb26 : b = true
                  · obtain rfl : b = true := by simpa using hb26
                    refine Cd.region ?_
                    refine Ops.q (q_mv rfl) ?_
                    refine Ops.q (q_mv rfl) ?_
                    refine Ops.sk ?_
                    refine Ops.sk ?_
                    refine Ops.sk ?_
                    refine Ops.sk ?_
                    refine Ops.sk ?_
                    refine Ops.sk ?_
                    refine Ops.sk ?_
                    refine Ops.sk ?_
                    refine Ops.sk ?_
                    refine Ops.sk ?_
                    refine Ops.sk ?_
                    refine Ops.sk ?_
                    refine Ops.sk ?_
                    refine Ops.sk ?_
                    refine Ops.sk ?_
                    refine Ops.sk ?_
                    refine Ops.q (q_pickT rfl rfl) ?_
                    refine Ops.q (q_asg rfl) ?_
                    refine Ops.to rfl ?_
                    refine Cd.region ?_
                    refine Ops.q (q_mv rfl) ?_
                    refine Ops.q (q_ar rfl rfl (a_inc (by omega))) ?_
                    refine Ops.q (q_asg rfl) ?_
                    refine Ops.rnd ((kk + 1, true)) rfl (by dsimp only; exact (⟨by omega, by rw [tog_b hxq, ← hI.2]; simp_all⟩)) (by dsimp only; omega) ⟨rfl, rfl, rfl, rfl, rfl, rfl, rfl, rfl, rfl, trivial⟩ (fun _ hs => ((((hs.pull (.there (.there (.there .here)))).pull (.there (.there (.there .here)))).pull (.there (.there (.there .here)))).pull (.there (.there (.there .here))))) 
                  · obtain rfl : b = false := by simpa using hb26
                    refine Cd.region ?_
                    refine Ops.q (q_mv rfl) ?_
                    refine Ops.q (q_mv rfl) ?_
                    refine Ops.q (q_mv rfl) ?_
                    refine Ops.q (q_mv rfl) ?_
                    refine Ops.q (q_ix (k := kk) esz_51 rfl rfl (by omega)) ?_
                    refine Ops.q (q_fa fo_60_0 rfl) ?_
                    refine Ops.q (q_ldR (v := .slice ia xi.length ic) isA_26 rfl (hL.1.at ePr_len hx rfl)) ?_
                    refine Ops.q (q_mv rfl) ?_
                    by_cases h27 : (i : Int) ∈ xi
                    · refine Ops.cp en_67 rfl (fun w hs => dT (has_c _ _ xi (i : Int) w (hxe.later hs.below) hxl.1) h27) ?_
                      refine Ops.q (q_mv rfl) ?_
                      refine Ops.q (q_mv rfl) ?_
                      refine Ops.q (q_mv rfl) ?_
                      refine Ops.q (q_ix (k := kk) esz_51 rfl rfl (by omega)) ?_
                      refine Ops.q (q_fa fo_60_1 rfl) ?_
                      refine Ops.q (q_ldR (v := .slice oa xo.length oc) isA_26 rfl (hL.1.at ePr_len hx rfl)) ?_
                      refine Ops.q (q_mv rfl) ?_
                      by_cases h28 : (j : Int) ∈ xo
                      · refine Ops.cp en_67 rfl (fun w hs => dT (has_c _ _ xo (j : Int) w (hxo.later hs.below) hxl.2) h28) ?_
                        refine Ops.q (q_pickT rfl rfl) ?_
                        refine Ops.q (q_pickF rfl rfl) ?_
                        refine Ops.q (q_asg rfl) ?_
                        refine Ops.to rfl ?_
                        refine Cd.region ?_
                        refine Ops.q (q_mv rfl) ?_
                        refine Ops.q (q_ar rfl rfl (a_inc (by omega))) ?_
                        refine Ops.q (q_asg rfl) ?_
                        refine Ops.rnd ((kk + 1, true)) rfl (by dsimp only; exact (⟨by omega, by rw [tog_b hxq, ← hI.2]; simp_all⟩)) (by dsimp only; omega) ⟨rfl, rfl, rfl, rfl, rfl, rfl, rfl, rfl, rfl, trivial⟩ (fun _ hs => ((((hs.pull (.there (.there (.there .here)))).pull (.there (.there (.there .here)))).pull (.there (.there (.there .here)))).pull (.there (.there (.there .here))))) 
                      · refine Ops.cp en_67 rfl (fun w hs => dF (has_c _ _ xo (j : Int) w (hxo.later hs.below) hxl.2) h28) ?_
                        refine Ops.q (q_pickT rfl rfl) ?_
                        refine Ops.q (q_pickF rfl rfl) ?_
                        refine Ops.q (q_asg rfl) ?_
                        refine Ops.to rfl ?_
                        refine Cd.region ?_
                        refine Ops.q (q_mv rfl) ?_
                        refine Ops.q (q_ar rfl rfl (a_inc (by omega))) ?_
                        refine Ops.q (q_asg rfl) ?_
                        refine Ops.rnd ((kk + 1, false)) rfl (by dsimp only; exact (⟨by omega, by rw [tog_b hxq, ← hI.2]; simp_all⟩)) (by dsimp only; omega) ⟨rfl, rfl, rfl, rfl, rfl, rfl, rfl, rfl, rfl, trivial⟩ (fun _ hs => ((((hs.pull (.there (.there (.there .here)))).pull (.there (.there (.there .here)))).pull (.there (.there (.there .here)))).pull (.there (.there (.there .here))))) 
                    · refine Ops.cp en_67 rfl (fun w hs => dF (has_c _ _ xi (i : Int) w (hxe.later hs.below) hxl.1) h27) ?_
                      refine Ops.q (q_mv rfl) ?_
                      refine Ops.sk ?_
                      refine Ops.sk ?_
                      refine Ops.sk ?_
                      refine Ops.sk ?_
                      refine Ops.sk ?_
                      refine Ops.sk ?_
                      refine Ops.sk ?_
                      refine Ops.q (q_pickF rfl rfl) ?_
                      refine Ops.q (q_pickF rfl rfl) ?_
                      refine Ops.q (q_asg rfl) ?_
                      refine Ops.to rfl ?_
                      refine Cd.region ?_
                      refine Ops.q (q_mv rfl) ?_
                      refine Ops.q (q_ar rfl rfl (a_inc (by omega))) ?_
                      refine Ops.q (q_asg rfl) ?_
                      refine Ops.rnd ((kk + 1, false)) rfl (by dsimp only; exact (⟨by omega, by rw [tog_b hxq, ← hI.2]; simp_all⟩)) (by dsimp only; omega) ⟨rfl, rfl, rfl, rfl, rfl, rfl, rfl, rfl, rfl, trivial⟩ (fun _ hs => ((((hs.pull (.there (.there (.there .here)))).pull (.there (.there (.there .here)))).pull (.there (.there (.there .here)))).pull (.there (.there (.there .here))))) 
                · refine Ops.q (q_cmp rfl rfl (c_nlt (by omega))) ?_
                  have hbt : b = decide (((i : Int), (j : Int)) ∈ (togS (ls.map prP))) := by rw [hI.2, List.take_of_length_le (show (ls.map prP).length ≤ kk by rw [List.length_map]; omega)]
                  refine Ops.to rfl ?_
                  refine Cd.cond_f rfl ?_
                  refine Cd.exitTo rfl ?_
                  refine Cd.seq ?_
                  refine Cd.region ?_
                  refine Ops.q (q_mv rfl) ?_
                  refine Ops.q (q_not rfl) ?_
                  refine Ops.to rfl ?_
                  refine Cd.cond rfl (fun h29 => ?_) (fun h29 => ?_)
                  · have hin : ¬ ((i : Int), (j : Int)) ∈ (togS (ls.map prP)) := by have := hbt; simp_all
                    refine Cd.draw rfl (by kernel_rfl) (.cons .here .nil) ?_
                    intro F30 St31 hP32 hF33 hR34
                    refine Dr.q (i := 0) hP32 rfl (by kernel_rfl) (q_ldBN [.slice pa ((List.replicate n (gateP 1)).length) pc, .int .i64 ((m + 1 : Nat) : Int), .slice ra ((((([] : List Syn) ++ memTo m (togS (ls.map prP)) j) ++ [(⟨-1 - (m : Int), (j : Int), 1, 1⟩ : Syn)]) ++ memRow m (togS (ls.map prP)) j i).length) rc] isA_32 sz_32 rfl .here rfl) ?_
                    refine Dr.q (i := 1) hP32 rfl (by kernel_rfl) (q_mv rfl) ?_
                    refine Dr.q (i := 3) hP32 rfl (by kernel_rfl) (q_mv rfl) ?_
                    refine Dr.e (i := 2) rfl (by kernel_rfl) ?_
                    refine Ops.cp en_56 rfl (fun w hs => rinput_c (i : Int) w (by omega)) ?_
                    refine Dr.back (fun _ hs => hF33 .here hs) ?_
                    refine Dr.e (i := 4) rfl (by kernel_rfl) ?_
                    refine Ops.cm (α := Option Addr × Nat) (v := fun p => .agg [.slice pa ((List.replicate n (gateP 1)).length) pc, .int .i64 ((m + 1 : Nat) : Int), .slice p.1 ((((([] : List Syn) ++ memTo m (togS (ls.map prP)) j) ++ [(⟨-1 - (m : Int), (j : Int), 1, 1⟩ : Syn)]) ++ memRow m (togS (ls.map prP)) j i) ++ [(⟨-1 - (i : Int), (j : Int), -1, 1⟩ : Syn)]).length p.2].toArray) (A' := fun p => row p.1 p.2 126 4 ((((([] : List Syn) ++ memTo m (togS (ls.map prP)) j) ++ [(⟨-1 - (m : Int), (j : Int), 1, 1⟩ : Syn)]) ++ memRow m (togS (ls.map prP)) j i) ++ [(⟨-1 - (i : Int), (j : Int), -1, 1⟩ : Syn)]).length (((((([] : List Syn) ++ memTo m (togS (ls.map prP)) j) ++ [(⟨-1 - (m : Int), (j : Int), 1, 1⟩ : Syn)]) ++ memRow m (togS (ls.map prP)) j i) ++ [(⟨-1 - (i : Int), (j : Int), -1, 1⟩ : Syn)]).flatMap eSyn) :: [F30, row pa pc 116 8 ((List.replicate n (gateP 1)).length) ((List.replicate n (gateP 1)).flatMap ePrm), blk b1 32 [.slice none 0 0, .int .i64 0, .slice none 0 0]]) en_55 rfl (fun w hs => wire_c _ _ _ ((m + 1 : Nat) : Int) _ _ (((([] : List Syn) ++ memTo m (togS (ls.map prP)) j) ++ [(⟨-1 - (m : Int), (j : Int), 1, 1⟩ : Syn)]) ++ memRow m (togS (ls.map prP)) j i) (-1 - (i : Int)) (j : Int) (-1) 1 _ w _ (by simp only [List.length_append, List.length_cons, List.length_nil]; omega) (((((hs.pull (.there (.there (.there .here)))).pull (.there (.there .here))).pull (.there (.there .here))).pull (.there (.there (.there .here)))))) ?_
                    rintro ⟨a35, c36⟩
                    refine Dr.back (fun _ hs => hF33 (.there .here) hs) ?_
                    refine Dr.tail 5 (by kernel_rfl) ?_
                    refine Ops.sat ?_ (fun _ hs => hR34 (.there .here) hs)
                    refine Ops.stB [.slice pa ((List.replicate n (gateP 1)).length) pc, .int .i64 ((m + 1 : Nat) : Int), .slice a35 (((((([] : List Syn) ++ memTo m (togS (ls.map prP)) j) ++ [(⟨-1 - (m : Int), (j : Int), 1, 1⟩ : Syn)]) ++ memRow m (togS (ls.map prP)) j i) ++ [(⟨-1 - (i : Int), (j : Int), -1, 1⟩ : Syn)]).length) c36] [.slice pa ((List.replicate n (gateP 1)).length) pc, .int .i64 ((m + 1 : Nat) : Int), .slice a35 (((((([] : List Syn) ++ memTo m (togS (ls.map prP)) j) ++ [(⟨-1 - (m : Int), (j : Int), 1, 1⟩ : Syn)]) ++ memRow m (togS (ls.map prP)) j i) ++ [(⟨-1 - (i : Int), (j : Int), -1, 1⟩ : Syn)]).length) c36] sz_32 rfl rfl rfl (one rfl) .here rfl rfl ?_
                    refine Ops.to rfl ?_
                    refine Cd.region ?_
                    refine Ops.q (q_mv rfl) ?_
                    refine Ops.q (q_ar rfl rfl (a_inc (by omega))) ?_
                    refine Ops.q (q_asg rfl) ?_
                    refine Ops.rnd ((i + 1, a35, c36)) rfl (by dsimp only; exact (by omega)) (by dsimp only; omega) ⟨rfl, rfl, rfl, rfl, rfl, rfl, rfl, trivial⟩ (fun _ hs => by have h1 := ((((hs.pull (.there (.there (.there .here)))).pull (.there (.there .here))).pull (.there (.there (.there .here)))).pull (.there (.there (.there .here)))); dsimp only; rw [memRow_step, memCell, if_neg hin]; exact h1) 
                  · have hin : ((i : Int), (j : Int)) ∈ (togS (ls.map prP)) := by have := hbt; simp_all
                    refine Cd.skipTo rfl ?_
                    refine Cd.region ?_
                    refine Ops.q (q_mv rfl) ?_
                    refine Ops.q (q_ar rfl rfl (a_inc (by omega))) ?_
                    refine Ops.q (q_asg rfl) ?_
                    refine Ops.rnd ((i + 1, ra, rc)) rfl (by dsimp only; exact (by omega)) (by dsimp only; omega) ⟨rfl, rfl, rfl, rfl, rfl, rfl, rfl, trivial⟩ (fun _ hs => by have h1 := ((((hs.pull (.there (.there (.there .here)))).pull (.there (.there (.there .here)))).pull (.there (.there (.there .here)))).pull (.there (.there (.there .here)))); dsimp only; rw [memRow_step, memCell, if_pos hin, List.append_nil]; exact h1) 
              · refine Ops.q (q_cmp rfl rfl (c_nlt (by omega))) ?_
                refine Ops.to rfl ?_
                refine Cd.cond_f rfl ?_
                refine Cd.exitTo rfl ?_
                refine Cd.region ?_
                refine Ops.q (q_mv rfl) ?_
                refine Ops.q (q_ar rfl rfl (a_inc (by omega))) ?_
                refine Ops.q (q_asg rfl) ?_
                refine Ops.rnd ((j + 1, ra, rc)) rfl (by dsimp only; exact (by omega)) (by dsimp only; omega) ⟨rfl, rfl, rfl, rfl, rfl, rfl, trivial⟩ (fun _ hs => by have h1 := ((((hs.pull (.there (.there (.there .here)))).pull (.there (.there (.there .here)))).pull (.there (.there (.there .here)))).pull (.there (.there (.there .here)))); have hie : i = m := (by omega); rw [hie] at h1; dsimp only; rw [memTo_step]; exact h1) 
            · refine Ops.q (q_cmp rfl rfl (c_nlt (by omega))) ?_
              refine Ops.to rfl ?_
              refine Cd.cond_f rfl ?_
              refine Cd.exitTo rfl ?_
              refine Cd.seq ?_
              refine Cd.region ?_
              refine Ops.q (q_ldBN [.slice pa ((List.replicate n (gateP 1)).length) pc, .int .i64 ((m + 1 : Nat) : Int), .slice qa ((([] : List Syn) ++ memTo m (togS (ls.map prP)) j).length) qc] isA_32 sz_32 rfl .here rfl) ?_
              refine Ops.stB [.slice pa ((List.replicate n (gateP 1)).length) pc, .int .i64 ((m + 1 : Nat) : Int), .slice qa ((([] : List Syn) ++ memTo m (togS (ls.map prP)) j).length) qc] [.slice pa ((List.replicate n (gateP 1)).length) pc, .int .i64 ((m + 1 : Nat) : Int), .slice qa ((([] : List Syn) ++ memTo m (togS (ls.map prP)) j).length) qc] sz_32 rfl rfl rfl (one rfl) (.there (.there (.there .here))) rfl rfl ?_
              refine Ops.q (q_asg rfl) ?_
              refine Ops.to rfl ?_
              refine Cd.rt (fn := Try.f29) [.agg [.slice pa ((List.replicate n (gateP 1)).length) pc, .int .i64 ((m + 1 : Nat) : Int), .slice qa ((([] : List Syn) ++ memTo m (togS (ls.map prP)) j).length) qc].toArray, .int .i64 0] (by with_reducible repeat (first | exact rq_here | apply rq_then | apply rq_block)) rfl ⟨⟨_, _, rfl, fun _ hs => run_loadN isA_32 sz_32 (fun o u hu => Sat.atB (.there (.there (.there .here))) (by rw [Nat.zero_add]; exact hu) hs)⟩, rfl, trivial⟩ ?_
              intro w' hs'
              have hj : j = n := by omega
              rw [hj] at hs'
              have hP : memP (m : Int) (n : Int) (ls.map prP) = .ok ⟨(List.replicate n (gateP 1)), ((m + 1 : Nat) : Int), (([] : List Syn) ++ memTo m (togS (ls.map prP)) n)⟩ := by unfold memP; rw [if_pos hwmn, if_neg (by rw [List.length_map]; omega), h9, if_neg (by decide)]; simp only [List.nil_append, List.map_replicate, Int.toNat_natCast]; rfl
              rw [hP]
              exact ⟨(pa, pc), (qa, qc), by rw [hj]; rfl, ((((hs'.pull (.there (.there .here))).pull (.there (.there .here))).pull (.there (.there .here))).drop.pull (.there (.there .here))).drop⟩
    · refine Ops.cp en_59 rfl (fun w hs => dF (rwithin_c _ _ _ w) h3) ?_
      refine Ops.q (q_not rfl) ?_
      refine Ops.q (q_pickF rfl rfl) ?_
      refine Ops.to rfl ?_
      refine Cd.cond_t rfl ?_
      refine Cd.seq ?_
      refine Cd.region ?_
      refine Ops.q (q_bld [.slice none 0 0, .int .i64 0, .slice none 0 0] pls_32 zc_32 rfl rfl) ?_
      refine Ops.stB [.slice none 0 0, .int .i64 0, .slice none 0 0] [.slice none 0 0, .int .i64 0, .slice none 0 0] sz_32 rfl rfl rfl (one rfl) .here rfl rfl ?_
      refine Ops.q (q_asg rfl) ?_
      refine Ops.to rfl ?_
      refine Cd.rt (fn := Try.f29) [.agg [.slice none 0 0, .int .i64 0, .slice none 0 0].toArray, .int .i64 3] (by with_reducible repeat (first | exact rq_here | apply rq_then | apply rq_block)) rfl ⟨⟨_, _, rfl, fun _ hs => run_loadN isA_32 sz_32 (fun o u hu => Sat.atB .here (by rw [Nat.zero_add]; exact hu) hs)⟩, rfl, trivial⟩ ?_
      intro w' hs'
      rw [show memP mi ni (ls.map prP) = .error 3 by unfold memP; rw [if_neg (fun h => by first | exact h3 h.1 | exact h3 h.2)]]
      exact ⟨rfl, hs'.none⟩
  · refine Ops.cp en_59 rfl (fun w hs => dF (rwithin_c _ _ _ w) h2) ?_
    refine Ops.q (q_not rfl) ?_
    refine Ops.q (q_mv rfl) ?_
    refine Ops.sk ?_
    refine Ops.sk ?_
    refine Ops.sk ?_
    refine Ops.q (q_pickT rfl rfl) ?_
    refine Ops.to rfl ?_
    refine Cd.cond_t rfl ?_
    refine Cd.seq ?_
    refine Cd.region ?_
    refine Ops.q (q_bld [.slice none 0 0, .int .i64 0, .slice none 0 0] pls_32 zc_32 rfl rfl) ?_
    refine Ops.stB [.slice none 0 0, .int .i64 0, .slice none 0 0] [.slice none 0 0, .int .i64 0, .slice none 0 0] sz_32 rfl rfl rfl (one rfl) .here rfl rfl ?_
    refine Ops.q (q_asg rfl) ?_
    refine Ops.to rfl ?_
    refine Cd.rt (fn := Try.f29) [.agg [.slice none 0 0, .int .i64 0, .slice none 0 0].toArray, .int .i64 3] (by with_reducible repeat (first | exact rq_here | apply rq_then | apply rq_block)) rfl ⟨⟨_, _, rfl, fun _ hs => run_loadN isA_32 sz_32 (fun o u hu => Sat.atB .here (by rw [Nat.zero_add]; exact hu) hs)⟩, rfl, trivial⟩ ?_
    intro w' hs'
    rw [show memP mi ni (ls.map prP) = .error 3 by unfold memP; rw [if_neg (fun h => by first | exact h2 h.1 | exact h2 h.2)]]
    exact ⟨rfl, hs'.none⟩
end Go.Proofs.Ytilcdghliigngaa
namespace Go.Proofs.Ytilcdghliigngaa
open Go.RowKit Go.Proofs.YtilcdghliigngaaGl Go.Proofs.YtilcdghliigngaaPm
set_option linter.unusedVariables false
set_option linter.unusedSimpArgs false
theorem rdGrow {w0 w : World} {φ φ' : World → Prop} {a : Option Addr} {c : Nat} {E : TypeId} {sz n : Nat} {cs : List Value} {A : List Atom} (h : Sat w0 w (rd φ :: row a c E sz n cs :: A)) (hf : ∀ w, φ w → Ro w a cs → φ' w) : Sat w0 w (rd φ' :: A) := by
  have h1 : Sat w0 w (bun [rd φ, row a c E sz n cs] :: A) := Sat.bundle (B := [rd φ, row a c E sz n cs]) (A := A) h
  exact h1.freeze (fun w S hS => by
    obtain ⟨S1, U1, ⟨hφ, _, _⟩, ⟨S2, U2, ⟨hrow, _⟩, _, _, _⟩, _, _⟩ := hS
    exact hf w hφ (ro_of_own hrow))
theorem rdNew {w0 w : World} {φ : World → Prop} {A : List Atom} (h : Sat w0 w A) (hf : ∀ w, φ w) : Sat w0 w (rd φ :: A) := by
  have h1 : Sat w0 w (bun [] :: A) := Sat.bundle (B := []) (A := A) h
  exact h1.freeze (fun w _ _ => hf w)
end Go.Proofs.Ytilcdghliigngaa
namespace Go.Proofs.Ytilcdghliigngaa
open Go.RowKit Go.Proofs.YtilcdghliigngaaGl Go.Proofs.YtilcdghliigngaaPm
set_option linter.unusedVariables false
set_option linter.unusedSimpArgs false
theorem rowle_any {w0 w : World} {A R : List Atom} {a : Option Addr} {cap sz m : Nat} {E : TypeId} {cs : List Value} (h : Sat w0 w A) (hp : Pull A (row a cap E sz m cs) R) : m ≤ cap := by
  obtain ⟨hlen, hown⟩ := h.own hp
  rcases hown with ⟨h0, h00⟩ | ⟨b', cap', cur, hv0, _, hh, h2, h3, h4, h5⟩
  · omega
  · cases hv0; exact h2
def exN (r : Except Int NetP) : NetP := match r with | .ok N => N | .error _ => ⟨[], 0, []⟩
theorem retR_ok {k : FuncId} {vs : Array Value} {r : Except Int NetP} {w : World} {N : NetP} (h : Calls Try.prog k vs w (RetR r w)) (hr : r = .ok N) :
    Calls Try.prog k vs w fun e w' => ∃ x : (Option Addr × Nat) × (Option Addr × Nat), e = .returned (.tuple #[.agg #[.slice x.1.1 N.ns.length x.1.2, .int .i64 N.inp, .slice x.2.1 N.ss.length x.2.2], .int .i64 0]) ∧ Sat w w' [row x.1.1 x.1.2 116 8 N.ns.length (N.ns.flatMap ePrm), row x.2.1 x.2.2 126 4 N.ss.length (N.ss.flatMap eSyn)] := by
  subst hr
  exact h.mono fun e w' h => by obtain ⟨p, q, h1, h2⟩ := h; exact ⟨(p, q), h1, h2⟩
theorem retL_ok {k : FuncId} {vs : Array Value} {r : Except Int (List Int)} {w : World} {xs : List Int} (h : Calls Try.prog k vs w (RetL r w)) (hr : r = .ok xs) :
    Calls Try.prog k vs w fun e w' => ∃ p : Option Addr × Nat, e = .returned (.tuple #[.slice p.1 xs.length p.2, .int .i64 0]) ∧ Sat w w' [row p.1 p.2 3 1 xs.length (xs.flatMap eInt)] := by
  subst hr; exact h
theorem retE_ok {k : FuncId} {vs : Array Value} {r : Except Int (List Evt)} {w : World} {xs : List Evt} (h : Calls Try.prog k vs w (RetE r w)) (hr : r = .ok xs) :
    Calls Try.prog k vs w fun e w' => ∃ p : Option Addr × Nat, e = .returned (.tuple #[.slice p.1 xs.length p.2, .int .i64 0]) ∧ Sat w w' [row p.1 p.2 88 2 xs.length (xs.flatMap eEvt)] := by
  subst hr; exact h
theorem runW {k : FuncId} {vs : Array Value} {w : World} {out xs : List Evt} (h : Calls Try.prog k vs w fun e w' => ∃ p : Option Addr × Nat, e = .returned (.slice p.1 out.length p.2) ∧ Sat w w' [row p.1 p.2 88 2 out.length (out.flatMap eEvt)]) (hr : out = xs) :
    Calls Try.prog k vs w fun e w' => ∃ p : Option Addr × Nat, e = .returned (.slice p.1 xs.length p.2) ∧ Sat w w' [row p.1 p.2 88 2 xs.length (xs.flatMap eEvt)] := by
  subst hr; exact h
abbrev wE : List Edg := [⟨0, 1, 5⟩, ⟨0, 2, 2⟩, ⟨2, 1, 2⟩]
def wNp : NetP := exN (pathsP 3 wE 0)
def wNs : NetP := exN (sortP 3)
abbrev wA : List (List Int) := [[0, 1], [1, 0]]
def wNm : NetP := exN (machineP wA 0 [false, true])
abbrev wC : List (List Int × Int) := [([], 0), ([0], 1), ([0, 1], -1), ([2], 2)]
def wNh : NetP := exN (hornP 3 wC)
def wNr : NetP := exN (memP 2 2 [([0], [1])])
def wNc : NetP := exN (countP 1 [⟨0, 5, 1⟩] 2)
def wNq : NetP := exN (patP 2 [⟨0, 0⟩, ⟨1, 3⟩] 0)
theorem kNp : pathsP 3 wE 0 = .ok wNp := by kernel_rfl
theorem kNs : sortP 3 = .ok wNs := by kernel_rfl
theorem kNm : machineP wA 0 [false, true] = .ok wNm := by kernel_rfl
theorem kNh : hornP 3 wC = .ok wNh := by kernel_rfl
theorem kNr : memP 2 2 [([0], [1])] = .ok wNr := by kernel_rfl
theorem kNc : countP 1 [⟨0, 5, 1⟩] 2 = .ok wNc := by kernel_rfl
theorem kNq : patP 2 [⟨0, 0⟩, ⟨1, 3⟩] 0 = .ok wNq := by kernel_rfl
theorem kLp : lawRun wNp 0 48 [⟨0, 0⟩] = [⟨1, 0⟩, ⟨3, 2⟩, ⟨5, 1⟩] := by kernel_rfl
theorem kLs : lawRun wNs 0 9 [⟨2, 1⟩, ⟨5, 0⟩, ⟨5, 2⟩] = [⟨3, 0⟩, ⟨6, 1⟩, ⟨6, 2⟩] := by kernel_rfl
theorem kDp : distP 3 [⟨1, 0⟩, ⟨3, 2⟩, ⟨5, 1⟩] = .ok [0, 4, 2] := by kernel_rfl
theorem kBp : befP 3 wE [0, 4, 2] = .ok [-1, 2, 0] := by kernel_rfl
theorem kWm : wordP wA 0 2 [1, 1, 0] = .ok [⟨0, 1⟩, ⟨0, 2⟩, ⟨3, 1⟩, ⟨6, 0⟩] := by kernel_rfl
theorem kLm : lawRun wNm 0 12 [⟨0, 1⟩, ⟨0, 2⟩, ⟨3, 1⟩, ⟨6, 0⟩] = [⟨1, 0⟩, ⟨2, 3⟩, ⟨4, 1⟩, ⟨5, 5⟩, ⟨5, 6⟩, ⟨7, 0⟩, ⟨8, 2⟩, ⟨10, 0⟩] := by kernel_rfl
theorem kSm : statesP wA 0 2 [⟨1, 0⟩, ⟨2, 3⟩, ⟨4, 1⟩, ⟨5, 5⟩, ⟨5, 6⟩, ⟨7, 0⟩, ⟨8, 2⟩, ⟨10, 0⟩] = .ok [0, 1, 0, 0] := by kernel_rfl
theorem kLh : lawRun wNh 0 9 [⟨0, 0⟩] = [⟨1, 4⟩, ⟨2, 0⟩, ⟨3, 5⟩, ⟨4, 1⟩, ⟨5, 6⟩, ⟨6, 3⟩] := by kernel_rfl
theorem kLr : lawRun wNr 0 9 [⟨4, 0⟩, ⟨4, 2⟩] = [⟨5, 1⟩] := by kernel_rfl
theorem kLc : lawRun wNc 0 9 [⟨0, 0⟩] = [⟨1, 0⟩, ⟨2, 0⟩] := by kernel_rfl
theorem kLq : lawRun wNq 0 20 [⟨1, 0⟩, ⟨4, 1⟩] = [⟨17, 0⟩] := by kernel_rfl
theorem works_c (w : World) : Calls Try.prog 13 [].toArray w fun e w' => e = .returned (.bool true) ∧ Sat w w' [] := by
  refine fstart Try.func13 rfl rfl (Sat.nil w) ?_
  refine Cd.seq ?_
  refine Cd.region ?_
  refine Ops.q (q_asg rfl) ?_
  refine Ops.to rfl ?_
  refine Cd.seq ?_
  refine Cd.region ?_
  refine Ops.q (q_bld [.int .i64 0, .int .i64 1, .int .i64 5] pls_82 zc_82 rfl rfl) ?_
  refine Ops.q (q_bld [.int .i64 0, .int .i64 2, .int .i64 2] pls_82 zc_82 rfl rfl) ?_
  refine Ops.q (q_bld [.int .i64 2, .int .i64 1, .int .i64 2] pls_82 zc_82 rfl rfl) ?_
  refine Ops.lit [.int .i64 0, .int .i64 1, .int .i64 5, .int .i64 0, .int .i64 2, .int .i64 2, .int .i64 2, .int .i64 1, .int .i64 2] el_80 zsb_82 rfl rfl ⟨by decide, by decide⟩ rfl ?_
  intro b1
  refine Ops.q (q_asg rfl) ?_
  refine Ops.to rfl ?_
  refine Cd.seq ?_
  refine Cd.region ?_
  refine Ops.q (q_mv rfl) ?_
  refine Ops.cl (α := (Option Addr × Nat) × (Option Addr × Nat)) (v := fun x => .tuple [.agg [.slice x.1.1 wNp.ns.length x.1.2, .int .i64 wNp.inp, .slice x.2.1 wNp.ss.length x.2.2].toArray, .int .i64 0].toArray) (B := fun x => [row x.1.1 x.1.2 116 8 wNp.ns.length (wNp.ns.flatMap ePrm), row x.2.1 x.2.2 126 4 wNp.ss.length (wNp.ss.flatMap eSyn)]) en_34 rfl (fun w hs => retR_ok (paths_c 3 _ _ [⟨0, 1, 5⟩, ⟨0, 2, 2⟩, ⟨2, 1, 2⟩] 0 w (hs.ownRo .here)) kNp) ?_
  rintro ⟨⟨p2, pc3⟩, ⟨q4, qc5⟩⟩
  refine Ops.q (q_mv rfl) ?_
  refine Ops.q (q_ext rfl rfl) ?_
  refine Ops.q (q_ext rfl rfl) ?_
  refine Ops.alc [.slice none 0 0, .int .i64 0, .slice none 0 0] zc_32 ?_
  intro b6
  refine Ops.stB [.slice p2 wNp.ns.length pc3, .int .i64 wNp.inp, .slice q4 wNp.ss.length qc5] [.slice p2 wNp.ns.length pc3, .int .i64 wNp.inp, .slice q4 wNp.ss.length qc5] sz_32 rfl rfl rfl (one rfl) .here rfl rfl ?_
  refine Ops.q (q_asg rfl) ?_
  refine Ops.to rfl ?_
  refine Cd.seq ?_
  refine Cd.draw rfl (by kernel_rfl) (.cons .here .nil) ?_
  intro F7 St8 hP9 hF10 hR11
  refine Dr.q (i := 0) hP9 rfl (by kernel_rfl) (q_ldBN [.slice p2 wNp.ns.length pc3, .int .i64 wNp.inp, .slice q4 wNp.ss.length qc5] isA_32 sz_32 rfl .here rfl) ?_
  refine Dr.q (i := 1) hP9 rfl (by kernel_rfl) (q_mv rfl) ?_
  refine Dr.e (i := 2) rfl (by kernel_rfl) ?_
  refine Ops.cp en_39 rfl (fun w hs => at_c 0 0 w) ?_
  refine Dr.back (fun _ hs => hF10 .here hs) ?_
  refine Dr.e (i := 3) rfl (by kernel_rfl) ?_
  refine Ops.lit [.int .i64 0, .int .i64 0] el_27 zsb_88 rfl rfl ⟨by decide, by decide⟩ rfl ?_
  intro b12
  refine Dr.back (fun _ hs => hF10 (.there .here) hs) ?_
  refine Dr.tail 4 (by kernel_rfl) ?_
  refine Ops.sat ?_ (fun _ hs => hR11 (.there .here) hs)
  refine Ops.cl (α := Option Addr × Nat) (v := fun p => .slice p.1 3 p.2) (B := fun p => [row p.1 p.2 88 2 3 [.int .i64 1, .int .i64 0, .int .i64 3, .int .i64 2, .int .i64 5, .int .i64 1]]) en_46 rfl (fun w hs => runW (lawRun_c _ _ _ _ wNp.ns wNp.inp wNp.ss _ _ ([⟨0, 0⟩] : List Evt) 0 48 w (hs.ownRo (.there (.there .here))) (hs.ownRo (.there (.there (.there .here)))) (hs.ownRo (.there .here)) (by exact rowle_any hs (.there .here))) kLp) ?_
  rintro ⟨ra13, rc14⟩
  refine Ops.q (q_asg rfl) ?_
  refine Ops.to rfl ?_
  refine Cd.seq ?_
  refine Cd.region ?_
  refine Ops.q (q_mv rfl) ?_
  refine Ops.cl (α := Option Addr × Nat) (v := fun p => .tuple [.slice p.1 3 p.2, .int .i64 0].toArray) (B := fun p => [row p.1 p.2 3 1 3 [.int .i64 0, .int .i64 4, .int .i64 2]]) en_37 rfl (fun w hs => retL_ok (dist_c 3 _ _ ([⟨1, 0⟩, ⟨3, 2⟩, ⟨5, 1⟩] : List Evt) w (hs.ownRo .here) (by decide)) kDp) ?_
  rintro ⟨la15, lc16⟩
  refine Ops.q (q_mv rfl) ?_
  refine Ops.q (q_ext rfl rfl) ?_
  refine Ops.q (q_ext rfl rfl) ?_
  refine Ops.q (q_asg rfl) ?_
  refine Ops.q (q_asg rfl) ?_
  refine Ops.to rfl ?_
  refine Cd.seq ?_
  refine Cd.region ?_
  refine Ops.q (q_mv rfl) ?_
  refine Ops.q (q_mv rfl) ?_
  refine Ops.cl (α := Option Addr × Nat) (v := fun p => .tuple [.slice p.1 3 p.2, .int .i64 0].toArray) (B := fun p => [row p.1 p.2 3 1 3 [.int .i64 (-1), .int .i64 2, .int .i64 0]]) en_38 rfl (fun w hs => retL_ok (before_c 3 _ _ wE _ _ [0, 4, 2] w (hs.ownRo (.there (.there (.there (.there (.there (.there .here))))))) (hs.ownRo .here)) kBp) ?_
  rintro ⟨la17, lc18⟩
  refine Ops.q (q_mv rfl) ?_
  refine Ops.q (q_ext rfl rfl) ?_
  refine Ops.q (q_ext rfl rfl) ?_
  refine Ops.q (q_asg rfl) ?_
  refine Ops.q (q_asg rfl) ?_
  refine Ops.to rfl ?_
  refine Cd.seq ?_
  refine Cd.seq ?_
  refine Cd.region ?_
  refine Ops.q (q_mv rfl) ?_
  refine Ops.cp en_39 rfl (fun w hs => at_c 1 0 w) ?_
  refine Ops.cp en_39 rfl (fun w hs => at_c 3 2 w) ?_
  refine Ops.cp en_39 rfl (fun w hs => at_c 5 1 w) ?_
  refine Ops.lit [.int .i64 1, .int .i64 0, .int .i64 3, .int .i64 2, .int .i64 5, .int .i64 1] el_27 zsb_88 rfl rfl ⟨by decide, by decide⟩ rfl ?_
  intro b19
  refine Ops.cp en_20 rfl (fun w hs => dT (events_c _ _ _ _ ([⟨1, 0⟩, ⟨3, 2⟩, ⟨5, 1⟩] : List Evt) ([⟨1, 0⟩, ⟨3, 2⟩, ⟨5, 1⟩] : List Evt) w (hs.ownRo (.there (.there (.there .here)))) (hs.ownRo .here) (by decide)) rfl) ?_
  refine Ops.q (q_not rfl) ?_
  refine Ops.q (q_mv rfl) ?_
  refine Ops.q (q_mv rfl) ?_
  refine Ops.q (q_cmp rfl rfl (c_nne (by decide))) ?_
  refine Ops.q (q_pickF rfl rfl) ?_
  refine Ops.q (q_mv rfl) ?_
  refine Ops.q (q_mv rfl) ?_
  refine Ops.q (q_cmp rfl rfl (c_nne (by decide))) ?_
  refine Ops.q (q_pickF rfl rfl) ?_
  refine Ops.q (q_mv rfl) ?_
  refine Ops.q (q_mv rfl) ?_
  refine Ops.lit [.int .i64 0, .int .i64 4, .int .i64 2] el_26 zsb_3 rfl rfl ⟨by decide, by decide⟩ rfl ?_
  intro b20
  refine Ops.cp en_23 rfl (fun w hs => dT (numbers_c _ _ _ _ ([0, 4, 2] : List Int) ([0, 4, 2] : List Int) w (hs.ownRo (.there (.there (.there .here)))) (hs.ownRo .here) (by decide)) rfl) ?_
  refine Ops.q (q_not rfl) ?_
  refine Ops.q (q_pickF rfl rfl) ?_
  refine Ops.q (q_mv rfl) ?_
  refine Ops.q (q_mv rfl) ?_
  refine Ops.lit [.int .i64 (-1), .int .i64 2, .int .i64 0] el_26 zsb_3 rfl rfl ⟨by decide, by decide⟩ rfl ?_
  intro b21
  refine Ops.cp en_23 rfl (fun w hs => dT (numbers_c _ _ _ _ ([-1, 2, 0] : List Int) ([-1, 2, 0] : List Int) w (hs.ownRo (.there (.there (.there .here)))) (hs.ownRo .here) (by decide)) rfl) ?_
  refine Ops.q (q_not rfl) ?_
  refine Ops.q (q_pickF rfl rfl) ?_
  refine Ops.to rfl ?_
  refine Cd.cond_f rfl ?_
  refine Cd.skipTo rfl ?_
  refine Cd.seq ?_
  refine Cd.sat ?_ (fun _ hs => (((((((((((hs.pull (.there (.there (.there (.there (.there (.there .here))))))).pull (.there .here)).drop.pull (.there .here)).drop.pull (.there .here)).drop.pull (.there .here)).drop.pull (.there .here)).drop.pull (.there .here)).drop.pull (.there .here)).drop.pull (.there .here)).drop.pull (.there .here)).drop.pull (.there .here)).drop)
  refine Cd.region ?_
  refine Ops.cl (α := (Option Addr × Nat) × (Option Addr × Nat)) (v := fun x => .tuple [.agg [.slice x.1.1 wNs.ns.length x.1.2, .int .i64 wNs.inp, .slice x.2.1 wNs.ss.length x.2.2].toArray, .int .i64 0].toArray) (B := fun x => [row x.1.1 x.1.2 116 8 wNs.ns.length (wNs.ns.flatMap ePrm), row x.2.1 x.2.2 126 4 wNs.ss.length (wNs.ss.flatMap eSyn)]) en_24 rfl (fun w hs => retR_ok (sort_c 3 w) kNs) ?_
  rintro ⟨⟨p22, pc23⟩, ⟨q24, qc25⟩⟩
  refine Ops.q (q_mv rfl) ?_
  refine Ops.q (q_ext rfl rfl) ?_
  refine Ops.q (q_ext rfl rfl) ?_
  refine Ops.stB [.slice p22 wNs.ns.length pc23, .int .i64 wNs.inp, .slice q24 wNs.ss.length qc25] [.slice p22 wNs.ns.length pc23, .int .i64 wNs.inp, .slice q24 wNs.ss.length qc25] sz_32 rfl rfl rfl (one rfl) (.there (.there .here)) rfl rfl ?_
  refine Ops.q (q_asg rfl) ?_
  refine Ops.to rfl ?_
  refine Cd.seq ?_
  refine Cd.seq ?_
  refine Cd.draw rfl (by kernel_rfl) (.cons (.there (.there .here)) .nil) ?_
  intro F26 St27 hP28 hF29 hR30
  refine Dr.q (i := 0) hP28 rfl (by kernel_rfl) (q_ldBN [.slice p22 wNs.ns.length pc23, .int .i64 wNs.inp, .slice q24 wNs.ss.length qc25] isA_32 sz_32 rfl .here rfl) ?_
  refine Dr.q (i := 1) hP28 rfl (by kernel_rfl) (q_mv rfl) ?_
  refine Dr.e (i := 2) rfl (by kernel_rfl) ?_
  refine Ops.cp en_39 rfl (fun w hs => at_c 2 1 w) ?_
  refine Dr.back (fun _ hs => hF29 .here hs) ?_
  refine Dr.e (i := 3) rfl (by kernel_rfl) ?_
  refine Ops.cp en_39 rfl (fun w hs => at_c 5 0 w) ?_
  refine Dr.back (fun _ hs => hF29 .here hs) ?_
  refine Dr.e (i := 4) rfl (by kernel_rfl) ?_
  refine Ops.cp en_39 rfl (fun w hs => at_c 5 2 w) ?_
  refine Dr.back (fun _ hs => hF29 .here hs) ?_
  refine Dr.e (i := 5) rfl (by kernel_rfl) ?_
  refine Ops.lit [.int .i64 2, .int .i64 1, .int .i64 5, .int .i64 0, .int .i64 5, .int .i64 2] el_27 zsb_88 rfl rfl ⟨by decide, by decide⟩ rfl ?_
  intro b31
  refine Dr.back (fun _ hs => hF29 (.there .here) hs) ?_
  refine Dr.e (i := 6) rfl (by kernel_rfl) ?_
  refine Ops.cl (α := Option Addr × Nat) (v := fun p => .slice p.1 3 p.2) (B := fun p => [row p.1 p.2 88 2 3 [.int .i64 3, .int .i64 0, .int .i64 6, .int .i64 1, .int .i64 6, .int .i64 2]]) en_46 rfl (fun w hs => runW (lawRun_c _ _ _ _ wNs.ns wNs.inp wNs.ss _ _ ([⟨2, 1⟩, ⟨5, 0⟩, ⟨5, 2⟩] : List Evt) 0 9 w (hs.ownRo (.there (.there .here))) (hs.ownRo (.there (.there (.there .here)))) (hs.ownRo .here) (by exact rowle_any hs .here)) kLs) ?_
  rintro ⟨ra32, rc33⟩
  refine Dr.back (fun _ hs => hF29 (.there (.there .here)) hs) ?_
  refine Dr.e (i := 7) rfl (by kernel_rfl) ?_
  refine Ops.cp en_39 rfl (fun w hs => at_c 3 0 w) ?_
  refine Dr.back (fun _ hs => hF29 (.there (.there .here)) hs) ?_
  refine Dr.e (i := 8) rfl (by kernel_rfl) ?_
  refine Ops.cp en_39 rfl (fun w hs => at_c 6 1 w) ?_
  refine Dr.back (fun _ hs => hF29 (.there (.there .here)) hs) ?_
  refine Dr.e (i := 9) rfl (by kernel_rfl) ?_
  refine Ops.cp en_39 rfl (fun w hs => at_c 6 2 w) ?_
  refine Dr.back (fun _ hs => hF29 (.there (.there .here)) hs) ?_
  refine Dr.e (i := 10) rfl (by kernel_rfl) ?_
  refine Ops.lit [.int .i64 3, .int .i64 0, .int .i64 6, .int .i64 1, .int .i64 6, .int .i64 2] el_27 zsb_88 rfl rfl ⟨by decide, by decide⟩ rfl ?_
  intro b34
  refine Dr.back (fun _ hs => hF29 (.there (.there (.there .here))) hs) ?_
  refine Dr.e (i := 11) rfl (by kernel_rfl) ?_
  refine Ops.cp en_20 rfl (fun w hs => dT (events_c _ _ _ _ ([⟨3, 0⟩, ⟨6, 1⟩, ⟨6, 2⟩] : List Evt) ([⟨3, 0⟩, ⟨6, 1⟩, ⟨6, 2⟩] : List Evt) w (hs.ownRo (.there .here)) (hs.ownRo .here) (by decide)) rfl) ?_
  refine Dr.back (fun _ hs => hF29 (.there (.there (.there .here))) hs) ?_
  refine Dr.q (i := 12) hP28 rfl (by kernel_rfl) (q_not rfl) ?_
  refine Dr.tail 13 (by kernel_rfl) ?_
  refine Ops.sat ?_ (fun _ hs => hR30 (.there (.there (.there .here))) hs)
  refine Ops.to rfl ?_
  refine Cd.cond_f rfl ?_
  refine Cd.skipTo rfl ?_
  refine Cd.seq ?_
  refine Cd.sat ?_ (fun _ hs => ((((((hs.pull .here).pull (.there .here)).drop.pull (.there .here)).drop.pull (.there .here)).drop.pull (.there .here)).drop.pull (.there .here)).drop)
  refine Cd.region ?_
  refine Ops.lit [.int .i64 0, .int .i64 1] el_26 zsb_3 rfl rfl ⟨by decide, by decide⟩ rfl ?_
  intro b35
  refine Ops.lit [.int .i64 1, .int .i64 0] el_26 zsb_3 rfl rfl ⟨by decide, by decide⟩ rfl ?_
  intro b36
  refine Ops.lit [.slice (some ⟨b35, 0, none⟩) 2 2, .slice (some ⟨b36, 0, none⟩) 2 2] el_22 zsb_26 rfl rfl ⟨by decide, by decide⟩ rfl ?_
  intro b37
  refine Ops.lit [.bool false, .bool true] el_23 zsb_4 rfl rfl ⟨by decide, by decide⟩ rfl ?_
  intro b38
  refine Ops.q (q_bld [.slice (some ⟨b37, 0, none⟩) 2 2, .int .i64 0, .slice (some ⟨b38, 0, none⟩) 2 2] pls_36 zc_36 rfl rfl) ?_
  refine Ops.alc [.slice none 0 0, .int .i64 0, .slice none 0 0] zc_36 ?_
  intro b39
  refine Ops.stB [.slice (some ⟨b37, 0, none⟩) 2 2, .int .i64 0, .slice (some ⟨b38, 0, none⟩) 2 2] [.slice (some ⟨b37, 0, none⟩) 2 2, .int .i64 0, .slice (some ⟨b38, 0, none⟩) 2 2] sz_36 rfl rfl rfl (one rfl) .here rfl rfl ?_
  refine Ops.to rfl ?_
  refine Cd.seq ?_
  refine Cd.region ?_
  refine Ops.q (q_ldBN [.slice (some ⟨b37, 0, none⟩) 2 2, .int .i64 0, .slice (some ⟨b38, 0, none⟩) 2 2] isA_36 sz_36 rfl .here rfl) ?_
  refine Ops.cl (α := (Option Addr × Nat) × (Option Addr × Nat)) (v := fun x => .tuple [.agg [.slice x.1.1 wNm.ns.length x.1.2, .int .i64 wNm.inp, .slice x.2.1 wNm.ss.length x.2.2].toArray, .int .i64 0].toArray) (B := fun x => [row x.1.1 x.1.2 116 8 wNm.ns.length (wNm.ns.flatMap ePrm), row x.2.1 x.2.2 126 4 wNm.ss.length (wNm.ss.flatMap eSyn)]) en_14 rfl (fun w hs => retR_ok (machine_c _ _ [(((some ⟨b35, 0, none⟩, 2), ([0, 1] : List Int)) : NL), (((some ⟨b36, 0, none⟩, 2), ([1, 0] : List Int)) : NL)] 0 _ _ [false, true] w ⟨hs.ownRo (.there (.there .here)), List.forall_mem_cons.2 ⟨hs.ownRo (.there (.there (.there (.there .here)))), List.forall_mem_cons.2 ⟨hs.ownRo (.there (.there (.there .here))), fun _ h => by cases h⟩⟩⟩ (hs.ownRo (.there .here))) kNm) ?_
  rintro ⟨⟨p40, pc41⟩, ⟨q42, qc43⟩⟩
  refine Ops.q (q_mv rfl) ?_
  refine Ops.q (q_ext rfl rfl) ?_
  refine Ops.q (q_ext rfl rfl) ?_
  refine Ops.stB [.slice p40 wNm.ns.length pc41, .int .i64 wNm.inp, .slice q42 wNm.ss.length qc43] [.slice p40 wNm.ns.length pc41, .int .i64 wNm.inp, .slice q42 wNm.ss.length qc43] sz_32 rfl rfl rfl (one rfl) (.there (.there (.there (.there (.there (.there (.there .here))))))) rfl rfl ?_
  refine Ops.q (q_asg rfl) ?_
  refine Ops.to rfl ?_
  refine Cd.seq ?_
  refine Cd.region ?_
  refine Ops.q (q_ldBN [.slice (some ⟨b37, 0, none⟩) 2 2, .int .i64 0, .slice (some ⟨b38, 0, none⟩) 2 2] isA_36 sz_36 rfl (.there (.there .here)) rfl) ?_
  refine Ops.lit [.int .i64 1, .int .i64 1, .int .i64 0] el_26 zsb_3 rfl rfl ⟨by decide, by decide⟩ rfl ?_
  intro b44
  refine Ops.cl (α := Option Addr × Nat) (v := fun p => .tuple [.slice p.1 4 p.2, .int .i64 0].toArray) (B := fun p => [row p.1 p.2 88 2 4 [.int .i64 0, .int .i64 1, .int .i64 0, .int .i64 2, .int .i64 3, .int .i64 1, .int .i64 6, .int .i64 0]]) en_18 rfl (fun w hs => retE_ok (word_c _ _ [(((some ⟨b35, 0, none⟩, 2), ([0, 1] : List Int)) : NL), (((some ⟨b36, 0, none⟩, 2), ([1, 0] : List Int)) : NL)] 0 _ 2 _ _ _ [1, 1, 0] w ⟨hs.ownRo (.there (.there (.there (.there (.there .here))))), List.forall_mem_cons.2 ⟨hs.ownRo (.there (.there (.there (.there (.there (.there (.there .here))))))), List.forall_mem_cons.2 ⟨hs.ownRo (.there (.there (.there (.there (.there (.there .here)))))), fun _ h => by cases h⟩⟩⟩ (hs.ownRo .here)) kWm) ?_
  rintro ⟨la45, lc46⟩
  refine Ops.q (q_mv rfl) ?_
  refine Ops.q (q_ext rfl rfl) ?_
  refine Ops.q (q_ext rfl rfl) ?_
  refine Ops.q (q_asg rfl) ?_
  refine Ops.q (q_asg rfl) ?_
  refine Ops.to rfl ?_
  refine Cd.seq ?_
  refine Cd.region ?_
  refine Ops.q (q_ldBN [.slice p40 wNm.ns.length pc41, .int .i64 wNm.inp, .slice q42 wNm.ss.length qc43] isA_32 sz_32 rfl (.there (.there (.there (.there (.there (.there (.there (.there (.there .here))))))))) rfl) ?_
  refine Ops.q (q_mv rfl) ?_
  refine Ops.q (q_mv rfl) ?_
  refine Ops.cl (α := Option Addr × Nat) (v := fun p => .slice p.1 8 p.2) (B := fun p => [row p.1 p.2 88 2 8 [.int .i64 1, .int .i64 0, .int .i64 2, .int .i64 3, .int .i64 4, .int .i64 1, .int .i64 5, .int .i64 5, .int .i64 5, .int .i64 6, .int .i64 7, .int .i64 0, .int .i64 8, .int .i64 2, .int .i64 10, .int .i64 0]]) en_46 rfl (fun w hs => runW (lawRun_c _ _ _ _ wNm.ns wNm.inp wNm.ss _ _ ([⟨0, 1⟩, ⟨0, 2⟩, ⟨3, 1⟩, ⟨6, 0⟩] : List Evt) 0 12 w (hs.ownRo (.there (.there .here))) (hs.ownRo (.there (.there (.there .here)))) (hs.ownRo .here) (by exact rowle_any hs .here)) kLm) ?_
  rintro ⟨ra47, rc48⟩
  refine Ops.q (q_asg rfl) ?_
  refine Ops.to rfl ?_
  refine Cd.seq ?_
  refine Cd.region ?_
  refine Ops.q (q_ldBN [.slice (some ⟨b37, 0, none⟩) 2 2, .int .i64 0, .slice (some ⟨b38, 0, none⟩) 2 2] isA_36 sz_36 rfl (.there (.there (.there (.there (.there .here))))) rfl) ?_
  refine Ops.q (q_mv rfl) ?_
  refine Ops.cl (α := Option Addr × Nat) (v := fun p => .tuple [.slice p.1 4 p.2, .int .i64 0].toArray) (B := fun p => [row p.1 p.2 3 1 4 [.int .i64 0, .int .i64 1, .int .i64 0, .int .i64 0]]) en_21 rfl (fun w hs => retL_ok (states_c _ _ [(((some ⟨b35, 0, none⟩, 2), ([0, 1] : List Int)) : NL), (((some ⟨b36, 0, none⟩, 2), ([1, 0] : List Int)) : NL)] 0 _ 2 _ _ _ ([⟨1, 0⟩, ⟨2, 3⟩, ⟨4, 1⟩, ⟨5, 5⟩, ⟨5, 6⟩, ⟨7, 0⟩, ⟨8, 2⟩, ⟨10, 0⟩] : List Evt) w ⟨hs.ownRo (.there (.there (.there (.there (.there (.there (.there .here))))))), List.forall_mem_cons.2 ⟨hs.ownRo (.there (.there (.there (.there (.there (.there (.there (.there (.there .here))))))))), List.forall_mem_cons.2 ⟨hs.ownRo (.there (.there (.there (.there (.there (.there (.there (.there .here)))))))), fun _ h => by cases h⟩⟩⟩ (hs.ownRo .here) (by decide)) kSm) ?_
  rintro ⟨la49, lc50⟩
  refine Ops.q (q_mv rfl) ?_
  refine Ops.q (q_ext rfl rfl) ?_
  refine Ops.q (q_ext rfl rfl) ?_
  refine Ops.q (q_asg rfl) ?_
  refine Ops.q (q_asg rfl) ?_
  refine Ops.to rfl ?_
  refine Cd.seq ?_
  refine Cd.seq ?_
  refine Cd.region ?_
  refine Ops.q (q_mv rfl) ?_
  refine Ops.q (q_cmp rfl rfl (c_nne (by decide))) ?_
  refine Ops.q (q_mv rfl) ?_
  refine Ops.q (q_mv rfl) ?_
  refine Ops.q (q_cmp rfl rfl (c_nne (by decide))) ?_
  refine Ops.q (q_pickF rfl rfl) ?_
  refine Ops.q (q_mv rfl) ?_
  refine Ops.q (q_mv rfl) ?_
  refine Ops.cp en_39 rfl (fun w hs => at_c 0 1 w) ?_
  refine Ops.cp en_39 rfl (fun w hs => at_c 0 2 w) ?_
  refine Ops.cp en_39 rfl (fun w hs => at_c 3 1 w) ?_
  refine Ops.cp en_39 rfl (fun w hs => at_c 6 0 w) ?_
  refine Ops.lit [.int .i64 0, .int .i64 1, .int .i64 0, .int .i64 2, .int .i64 3, .int .i64 1, .int .i64 6, .int .i64 0] el_27 zsb_88 rfl rfl ⟨by decide, by decide⟩ rfl ?_
  intro b51
  refine Ops.cp en_20 rfl (fun w hs => dT (events_c _ _ _ _ ([⟨0, 1⟩, ⟨0, 2⟩, ⟨3, 1⟩, ⟨6, 0⟩] : List Evt) ([⟨0, 1⟩, ⟨0, 2⟩, ⟨3, 1⟩, ⟨6, 0⟩] : List Evt) w (hs.ownRo (.there (.there (.there .here)))) (hs.ownRo .here) (by decide)) rfl) ?_
  refine Ops.q (q_not rfl) ?_
  refine Ops.q (q_pickF rfl rfl) ?_
  refine Ops.q (q_mv rfl) ?_
  refine Ops.q (q_mv rfl) ?_
  refine Ops.lit [.int .i64 0, .int .i64 1, .int .i64 0, .int .i64 0] el_26 zsb_3 rfl rfl ⟨by decide, by decide⟩ rfl ?_
  intro b52
  refine Ops.cp en_23 rfl (fun w hs => dT (numbers_c _ _ _ _ ([0, 1, 0, 0] : List Int) ([0, 1, 0, 0] : List Int) w (hs.ownRo (.there (.there .here))) (hs.ownRo .here) (by decide)) rfl) ?_
  refine Ops.q (q_not rfl) ?_
  refine Ops.q (q_pickF rfl rfl) ?_
  refine Ops.to rfl ?_
  refine Cd.cond_f rfl ?_
  refine Cd.skipTo rfl ?_
  refine Cd.seq ?_
  refine Cd.sat ?_ (fun _ hs => ((((((((((((((hs.pull (.there (.there (.there (.there (.there (.there (.there (.there (.there (.there (.there (.there (.there .here)))))))))))))).pull (.there .here)).drop.pull (.there .here)).drop.pull (.there .here)).drop.pull (.there .here)).drop.pull (.there .here)).drop.pull (.there .here)).drop.pull (.there .here)).drop.pull (.there .here)).drop.pull (.there .here)).drop.pull (.there .here)).drop.pull (.there .here)).drop.pull (.there .here)).drop.pull (.there .here)).drop)
  refine Cd.region ?_
  refine Ops.q (q_bld [.slice none 0 0, .int .i64 0] pls_55 zc_55 rfl rfl) ?_
  refine Ops.lit [.int .i64 0] el_26 zsb_3 rfl rfl ⟨by decide, by decide⟩ rfl ?_
  intro b53
  refine Ops.q (q_bld [.slice (some ⟨b53, 0, none⟩) 1 1, .int .i64 1] pls_55 zc_55 rfl rfl) ?_
  refine Ops.lit [.int .i64 0, .int .i64 1] el_26 zsb_3 rfl rfl ⟨by decide, by decide⟩ rfl ?_
  intro b54
  refine Ops.q (q_bld [.slice (some ⟨b54, 0, none⟩) 2 2, .int .i64 (-1)] pls_55 zc_55 rfl rfl) ?_
  refine Ops.lit [.int .i64 2] el_26 zsb_3 rfl rfl ⟨by decide, by decide⟩ rfl ?_
  intro b55
  refine Ops.q (q_bld [.slice (some ⟨b55, 0, none⟩) 1 1, .int .i64 2] pls_55 zc_55 rfl rfl) ?_
  refine Ops.lit [.slice none 0 0, .int .i64 0, .slice (some ⟨b53, 0, none⟩) 1 1, .int .i64 1, .slice (some ⟨b54, 0, none⟩) 2 2, .int .i64 (-1), .slice (some ⟨b55, 0, none⟩) 1 1, .int .i64 2] el_52 zsb_55 rfl rfl ⟨by decide, by decide⟩ rfl ?_
  intro b56
  refine Ops.cl (α := (Option Addr × Nat) × (Option Addr × Nat)) (v := fun x => .tuple [.agg [.slice x.1.1 wNh.ns.length x.1.2, .int .i64 wNh.inp, .slice x.2.1 wNh.ss.length x.2.2].toArray, .int .i64 0].toArray) (B := fun x => [row x.1.1 x.1.2 116 8 wNh.ns.length (wNh.ns.flatMap ePrm), row x.2.1 x.2.2 126 4 wNh.ss.length (wNh.ss.flatMap eSyn)]) en_26 rfl (fun w hs => retR_ok (horn_c 3 _ _ [((((none, 0), []), 0) : CL), ((((some ⟨b53, 0, none⟩, 1), ([0] : List Int)), 1) : CL), ((((some ⟨b54, 0, none⟩, 2), ([0, 1] : List Int)), -1) : CL), ((((some ⟨b55, 0, none⟩, 1), ([2] : List Int)), 2) : CL)] w ⟨hs.ownRo .here, List.forall_mem_cons.2 ⟨(Ro.nil _ _), List.forall_mem_cons.2 ⟨hs.ownRo (.there (.there (.there .here))), List.forall_mem_cons.2 ⟨hs.ownRo (.there (.there .here)), List.forall_mem_cons.2 ⟨hs.ownRo (.there .here), fun _ h => by cases h⟩⟩⟩⟩⟩) kNh) ?_
  rintro ⟨⟨p57, pc58⟩, ⟨q59, qc60⟩⟩
  refine Ops.q (q_mv rfl) ?_
  refine Ops.q (q_ext rfl rfl) ?_
  refine Ops.q (q_ext rfl rfl) ?_
  refine Ops.stB [.slice p57 wNh.ns.length pc58, .int .i64 wNh.inp, .slice q59 wNh.ss.length qc60] [.slice p57 wNh.ns.length pc58, .int .i64 wNh.inp, .slice q59 wNh.ss.length qc60] sz_32 rfl rfl rfl (one rfl) (.there (.there (.there (.there (.there (.there .here)))))) rfl rfl ?_
  refine Ops.q (q_asg rfl) ?_
  refine Ops.to rfl ?_
  refine Cd.seq ?_
  refine Cd.seq ?_
  refine Cd.draw rfl (by kernel_rfl) (.cons (.there (.there (.there (.there (.there (.there .here)))))) .nil) ?_
  intro F61 St62 hP63 hF64 hR65
  refine Dr.q (i := 0) hP63 rfl (by kernel_rfl) (q_ldBN [.slice p57 wNh.ns.length pc58, .int .i64 wNh.inp, .slice q59 wNh.ss.length qc60] isA_32 sz_32 rfl .here rfl) ?_
  refine Dr.q (i := 1) hP63 rfl (by kernel_rfl) (q_mv rfl) ?_
  refine Dr.e (i := 2) rfl (by kernel_rfl) ?_
  refine Ops.cp en_39 rfl (fun w hs => at_c 0 0 w) ?_
  refine Dr.back (fun _ hs => hF64 .here hs) ?_
  refine Dr.e (i := 3) rfl (by kernel_rfl) ?_
  refine Ops.lit [.int .i64 0, .int .i64 0] el_27 zsb_88 rfl rfl ⟨by decide, by decide⟩ rfl ?_
  intro b66
  refine Dr.back (fun _ hs => hF64 (.there .here) hs) ?_
  refine Dr.tail 4 (by kernel_rfl) ?_
  refine Ops.sat ?_ (fun _ hs => hR65 (.there .here) hs)
  refine Ops.cl (α := Option Addr × Nat) (v := fun p => .slice p.1 6 p.2) (B := fun p => [row p.1 p.2 88 2 6 [.int .i64 1, .int .i64 4, .int .i64 2, .int .i64 0, .int .i64 3, .int .i64 5, .int .i64 4, .int .i64 1, .int .i64 5, .int .i64 6, .int .i64 6, .int .i64 3]]) en_46 rfl (fun w hs => runW (lawRun_c _ _ _ _ wNh.ns wNh.inp wNh.ss _ _ ([⟨0, 0⟩] : List Evt) 0 9 w (hs.ownRo (.there (.there .here))) (hs.ownRo (.there (.there (.there .here)))) (hs.ownRo (.there .here)) (by exact rowle_any hs (.there .here))) kLh) ?_
  rintro ⟨ra67, rc68⟩
  refine Ops.q (q_asg rfl) ?_
  refine Ops.to rfl ?_
  refine Cd.seq ?_
  refine Cd.rowpos .here (by decide) ?_
  rintro rb rfl
  refine Cd.draw rfl (by kernel_rfl) (.cons .here .nil) ?_
  intro F69 St70 hP71 hF72 hR73
  refine Dr.q (i := 0) hP71 rfl (by kernel_rfl) (q_mv rfl) ?_
  refine Dr.q (i := 1) hP71 rfl (by kernel_rfl) (q_len esz_27 rfl) ?_
  refine Dr.q (i := 2) hP71 rfl (by kernel_rfl) (q_cmp rfl rfl (c_nne (by decide))) ?_
  refine Dr.q (i := 3) hP71 rfl (by kernel_rfl) (q_mv rfl) ?_
  refine Dr.q (i := 4) hP71 rfl (by kernel_rfl) (q_mv rfl) ?_
  refine Dr.q (i := 5) hP71 rfl (by kernel_rfl) (q_ix (k := 1) esz_27 rfl rfl (by omega)) ?_
  refine Dr.q (i := 6) hP71 rfl (by kernel_rfl) (q_ldON [.int .i64 2, .int .i64 0] isA_88 sz_88 rfl .here rfl) ?_
  refine Dr.e (i := 7) rfl (by kernel_rfl) ?_
  refine Ops.cp en_39 rfl (fun w hs => at_c 2 0 w) ?_
  refine Dr.back (fun _ hs => hF72 .here hs) ?_
  refine Dr.q (i := 8) hP71 rfl (by kernel_rfl) (q_neF [2, 0] [2, 0] intS_88 rfl rfl rfl rfl rfl (by decide)) ?_
  refine Dr.q (i := 9) hP71 rfl (by kernel_rfl) (q_pickF rfl rfl) ?_
  refine Dr.q (i := 10) hP71 rfl (by kernel_rfl) (q_mv rfl) ?_
  refine Dr.q (i := 11) hP71 rfl (by kernel_rfl) (q_mv rfl) ?_
  refine Dr.q (i := 12) hP71 rfl (by kernel_rfl) (q_ix (k := 3) esz_27 rfl rfl (by omega)) ?_
  refine Dr.q (i := 13) hP71 rfl (by kernel_rfl) (q_ldON [.int .i64 4, .int .i64 1] isA_88 sz_88 rfl .here rfl) ?_
  refine Dr.e (i := 14) rfl (by kernel_rfl) ?_
  refine Ops.cp en_39 rfl (fun w hs => at_c 4 1 w) ?_
  refine Dr.back (fun _ hs => hF72 .here hs) ?_
  refine Dr.q (i := 15) hP71 rfl (by kernel_rfl) (q_neF [4, 1] [4, 1] intS_88 rfl rfl rfl rfl rfl (by decide)) ?_
  refine Dr.q (i := 16) hP71 rfl (by kernel_rfl) (q_pickF rfl rfl) ?_
  refine Dr.q (i := 17) hP71 rfl (by kernel_rfl) (q_mv rfl) ?_
  refine Dr.q (i := 18) hP71 rfl (by kernel_rfl) (q_mv rfl) ?_
  refine Dr.q (i := 19) hP71 rfl (by kernel_rfl) (q_ix (k := 5) esz_27 rfl rfl (by omega)) ?_
  refine Dr.q (i := 20) hP71 rfl (by kernel_rfl) (q_ldON [.int .i64 6, .int .i64 3] isA_88 sz_88 rfl .here rfl) ?_
  refine Dr.e (i := 21) rfl (by kernel_rfl) ?_
  refine Ops.cp en_39 rfl (fun w hs => at_c 6 3 w) ?_
  refine Dr.back (fun _ hs => hF72 .here hs) ?_
  refine Dr.q (i := 22) hP71 rfl (by kernel_rfl) (q_neF [6, 3] [6, 3] intS_88 rfl rfl rfl rfl rfl (by decide)) ?_
  refine Dr.q (i := 23) hP71 rfl (by kernel_rfl) (q_pickF rfl rfl) ?_
  refine Dr.tail 24 (by kernel_rfl) ?_
  refine Ops.sat ?_ (fun _ hs => hR73 .here hs)
  refine Ops.to rfl ?_
  refine Cd.cond_f rfl ?_
  refine Cd.skipTo rfl ?_
  refine Cd.seq ?_
  refine Cd.sat ?_ (fun _ hs => (((((((((hs.pull (.there .here)).pull (.there .here)).drop.pull (.there .here)).drop.pull (.there .here)).drop.pull (.there .here)).drop.pull (.there .here)).drop.pull (.there .here)).drop.pull (.there .here)).drop.pull (.there .here)).drop)
  refine Cd.region ?_
  refine Ops.lit [.int .i64 0] el_26 zsb_3 rfl rfl ⟨by decide, by decide⟩ rfl ?_
  intro b74
  refine Ops.lit [.int .i64 1] el_26 zsb_3 rfl rfl ⟨by decide, by decide⟩ rfl ?_
  intro b75
  refine Ops.q (q_bld [.slice (some ⟨b74, 0, none⟩) 1 1, .slice (some ⟨b75, 0, none⟩) 1 1] pls_61 zc_61 rfl rfl) ?_
  refine Ops.lit [.slice (some ⟨b74, 0, none⟩) 1 1, .slice (some ⟨b75, 0, none⟩) 1 1] el_58 zsb_61 rfl rfl ⟨by decide, by decide⟩ rfl ?_
  intro b76
  refine Ops.cl (α := (Option Addr × Nat) × (Option Addr × Nat)) (v := fun x => .tuple [.agg [.slice x.1.1 wNr.ns.length x.1.2, .int .i64 wNr.inp, .slice x.2.1 wNr.ss.length x.2.2].toArray, .int .i64 0].toArray) (B := fun x => [row x.1.1 x.1.2 116 8 wNr.ns.length (wNr.ns.flatMap ePrm), row x.2.1 x.2.2 126 4 wNr.ss.length (wNr.ss.flatMap eSyn)]) en_28 rfl (fun w hs => retR_ok (memory_c 2 2 _ _ [(((((some ⟨b74, 0, none⟩, 1), [0]), ((some ⟨b75, 0, none⟩, 1), [1]))) : PR)] w ⟨hs.ownRo .here, List.forall_mem_cons.2 ⟨⟨hs.ownRo (.there (.there .here)), hs.ownRo (.there .here)⟩, fun _ h => by cases h⟩⟩ (List.forall_mem_cons.2 ⟨⟨(show (1 : Nat) ≤ 1000000 by decide), (show (1 : Nat) ≤ 1000000 by decide)⟩, fun _ h => by cases h⟩)) kNr) ?_
  rintro ⟨⟨p77, pc78⟩, ⟨q79, qc80⟩⟩
  refine Ops.q (q_mv rfl) ?_
  refine Ops.q (q_ext rfl rfl) ?_
  refine Ops.q (q_ext rfl rfl) ?_
  refine Ops.stB [.slice p77 wNr.ns.length pc78, .int .i64 wNr.inp, .slice q79 wNr.ss.length qc80] [.slice p77 wNr.ns.length pc78, .int .i64 wNr.inp, .slice q79 wNr.ss.length qc80] sz_32 rfl rfl rfl (one rfl) (.there (.there (.there (.there (.there .here))))) rfl rfl ?_
  refine Ops.q (q_asg rfl) ?_
  refine Ops.to rfl ?_
  refine Cd.seq ?_
  refine Cd.seq ?_
  refine Cd.draw rfl (by kernel_rfl) (.cons (.there (.there (.there (.there (.there .here))))) .nil) ?_
  intro F81 St82 hP83 hF84 hR85
  refine Dr.q (i := 0) hP83 rfl (by kernel_rfl) (q_ldBN [.slice p77 wNr.ns.length pc78, .int .i64 wNr.inp, .slice q79 wNr.ss.length qc80] isA_32 sz_32 rfl .here rfl) ?_
  refine Dr.q (i := 1) hP83 rfl (by kernel_rfl) (q_mv rfl) ?_
  refine Dr.e (i := 2) rfl (by kernel_rfl) ?_
  refine Ops.cp en_39 rfl (fun w hs => at_c 4 0 w) ?_
  refine Dr.back (fun _ hs => hF84 .here hs) ?_
  refine Dr.e (i := 3) rfl (by kernel_rfl) ?_
  refine Ops.cp en_39 rfl (fun w hs => at_c 4 2 w) ?_
  refine Dr.back (fun _ hs => hF84 .here hs) ?_
  refine Dr.e (i := 4) rfl (by kernel_rfl) ?_
  refine Ops.lit [.int .i64 4, .int .i64 0, .int .i64 4, .int .i64 2] el_27 zsb_88 rfl rfl ⟨by decide, by decide⟩ rfl ?_
  intro b86
  refine Dr.back (fun _ hs => hF84 (.there .here) hs) ?_
  refine Dr.e (i := 5) rfl (by kernel_rfl) ?_
  refine Ops.cl (α := Option Addr × Nat) (v := fun p => .slice p.1 1 p.2) (B := fun p => [row p.1 p.2 88 2 1 [.int .i64 5, .int .i64 1]]) en_46 rfl (fun w hs => runW (lawRun_c _ _ _ _ wNr.ns wNr.inp wNr.ss _ _ ([⟨4, 0⟩, ⟨4, 2⟩] : List Evt) 0 9 w (hs.ownRo (.there (.there .here))) (hs.ownRo (.there (.there (.there .here)))) (hs.ownRo .here) (by exact rowle_any hs .here)) kLr) ?_
  rintro ⟨ra87, rc88⟩
  refine Dr.back (fun _ hs => hF84 (.there (.there .here)) hs) ?_
  refine Dr.e (i := 6) rfl (by kernel_rfl) ?_
  refine Ops.cp en_39 rfl (fun w hs => at_c 5 1 w) ?_
  refine Dr.back (fun _ hs => hF84 (.there (.there .here)) hs) ?_
  refine Dr.e (i := 7) rfl (by kernel_rfl) ?_
  refine Ops.lit [.int .i64 5, .int .i64 1] el_27 zsb_88 rfl rfl ⟨by decide, by decide⟩ rfl ?_
  intro b89
  refine Dr.back (fun _ hs => hF84 (.there (.there (.there .here))) hs) ?_
  refine Dr.e (i := 8) rfl (by kernel_rfl) ?_
  refine Ops.cp en_20 rfl (fun w hs => dT (events_c _ _ _ _ ([⟨5, 1⟩] : List Evt) ([⟨5, 1⟩] : List Evt) w (hs.ownRo (.there .here)) (hs.ownRo .here) (by decide)) rfl) ?_
  refine Dr.back (fun _ hs => hF84 (.there (.there (.there .here))) hs) ?_
  refine Dr.q (i := 9) hP83 rfl (by kernel_rfl) (q_not rfl) ?_
  refine Dr.tail 10 (by kernel_rfl) ?_
  refine Ops.sat ?_ (fun _ hs => hR85 (.there (.there (.there .here))) hs)
  refine Ops.to rfl ?_
  refine Cd.cond_f rfl ?_
  refine Cd.skipTo rfl ?_
  refine Cd.seq ?_
  refine Cd.sat ?_ (fun _ hs => (((((((((hs.pull .here).pull (.there .here)).drop.pull (.there .here)).drop.pull (.there .here)).drop.pull (.there .here)).drop.pull (.there .here)).drop.pull (.there .here)).drop.pull (.there .here)).drop.pull (.there .here)).drop)
  refine Cd.region ?_
  refine Ops.q (q_bld [.int .i64 0, .int .i64 5, .int .i64 1] pls_70 zc_70 rfl rfl) ?_
  refine Ops.lit [.int .i64 0, .int .i64 5, .int .i64 1] el_67 zsb_70 rfl rfl ⟨by decide, by decide⟩ rfl ?_
  intro b90
  refine Ops.cl (α := (Option Addr × Nat) × (Option Addr × Nat)) (v := fun x => .tuple [.agg [.slice x.1.1 wNc.ns.length x.1.2, .int .i64 wNc.inp, .slice x.2.1 wNc.ss.length x.2.2].toArray, .int .i64 0].toArray) (B := fun x => [row x.1.1 x.1.2 116 8 wNc.ns.length (wNc.ns.flatMap ePrm), row x.2.1 x.2.2 126 4 wNc.ss.length (wNc.ss.flatMap eSyn)]) en_30 rfl (fun w hs => retR_ok (count_c 1 _ _ [⟨0, 5, 1⟩] 2 w (hs.ownRo .here)) kNc) ?_
  rintro ⟨⟨p91, pc92⟩, ⟨q93, qc94⟩⟩
  refine Ops.q (q_mv rfl) ?_
  refine Ops.q (q_ext rfl rfl) ?_
  refine Ops.q (q_ext rfl rfl) ?_
  refine Ops.stB [.slice p91 wNc.ns.length pc92, .int .i64 wNc.inp, .slice q93 wNc.ss.length qc94] [.slice p91 wNc.ns.length pc92, .int .i64 wNc.inp, .slice q93 wNc.ss.length qc94] sz_32 rfl rfl rfl (one rfl) (.there (.there (.there .here))) rfl rfl ?_
  refine Ops.q (q_asg rfl) ?_
  refine Ops.to rfl ?_
  refine Cd.seq ?_
  refine Cd.seq ?_
  refine Cd.draw rfl (by kernel_rfl) (.cons (.there (.there (.there .here))) .nil) ?_
  intro F95 St96 hP97 hF98 hR99
  refine Dr.q (i := 0) hP97 rfl (by kernel_rfl) (q_ldBN [.slice p91 wNc.ns.length pc92, .int .i64 wNc.inp, .slice q93 wNc.ss.length qc94] isA_32 sz_32 rfl .here rfl) ?_
  refine Dr.q (i := 1) hP97 rfl (by kernel_rfl) (q_mv rfl) ?_
  refine Dr.e (i := 2) rfl (by kernel_rfl) ?_
  refine Ops.cp en_39 rfl (fun w hs => at_c 0 0 w) ?_
  refine Dr.back (fun _ hs => hF98 .here hs) ?_
  refine Dr.e (i := 3) rfl (by kernel_rfl) ?_
  refine Ops.lit [.int .i64 0, .int .i64 0] el_27 zsb_88 rfl rfl ⟨by decide, by decide⟩ rfl ?_
  intro b100
  refine Dr.back (fun _ hs => hF98 (.there .here) hs) ?_
  refine Dr.tail 4 (by kernel_rfl) ?_
  refine Ops.sat ?_ (fun _ hs => hR99 (.there .here) hs)
  refine Ops.cl (α := Option Addr × Nat) (v := fun p => .slice p.1 2 p.2) (B := fun p => [row p.1 p.2 88 2 2 [.int .i64 1, .int .i64 0, .int .i64 2, .int .i64 0]]) en_46 rfl (fun w hs => runW (lawRun_c _ _ _ _ wNc.ns wNc.inp wNc.ss _ _ ([⟨0, 0⟩] : List Evt) 0 9 w (hs.ownRo (.there (.there .here))) (hs.ownRo (.there (.there (.there .here)))) (hs.ownRo (.there .here)) (by exact rowle_any hs (.there .here))) kLc) ?_
  rintro ⟨ra101, rc102⟩
  refine Ops.cp en_39 rfl (fun w hs => at_c 1 0 w) ?_
  refine Ops.cp en_39 rfl (fun w hs => at_c 2 0 w) ?_
  refine Ops.lit [.int .i64 1, .int .i64 0, .int .i64 2, .int .i64 0] el_27 zsb_88 rfl rfl ⟨by decide, by decide⟩ rfl ?_
  intro b103
  refine Ops.cp en_20 rfl (fun w hs => dT (events_c _ _ _ _ ([⟨1, 0⟩, ⟨2, 0⟩] : List Evt) ([⟨1, 0⟩, ⟨2, 0⟩] : List Evt) w (hs.ownRo (.there .here)) (hs.ownRo .here) (by decide)) rfl) ?_
  refine Ops.q (q_not rfl) ?_
  refine Ops.to rfl ?_
  refine Cd.cond_f rfl ?_
  refine Cd.skipTo rfl ?_
  refine Cd.seq ?_
  refine Cd.sat ?_ (fun _ hs => (((((((hs.pull (.there (.there .here))).pull (.there .here)).drop.pull (.there .here)).drop.pull (.there .here)).drop.pull (.there .here)).drop.pull (.there .here)).drop.pull (.there .here)).drop)
  refine Cd.region ?_
  refine Ops.q (q_bld [.int .i64 0, .int .i64 0] pls_76 zc_76 rfl rfl) ?_
  refine Ops.q (q_bld [.int .i64 1, .int .i64 3] pls_76 zc_76 rfl rfl) ?_
  refine Ops.lit [.int .i64 0, .int .i64 0, .int .i64 1, .int .i64 3] el_73 zsb_76 rfl rfl ⟨by decide, by decide⟩ rfl ?_
  intro b104
  refine Ops.cl (α := (Option Addr × Nat) × (Option Addr × Nat)) (v := fun x => .tuple [.agg [.slice x.1.1 wNq.ns.length x.1.2, .int .i64 wNq.inp, .slice x.2.1 wNq.ss.length x.2.2].toArray, .int .i64 0].toArray) (B := fun x => [row x.1.1 x.1.2 116 8 wNq.ns.length (wNq.ns.flatMap ePrm), row x.2.1 x.2.2 126 4 wNq.ss.length (wNq.ss.flatMap eSyn)]) en_32 rfl (fun w hs => retR_ok (pattern_c 2 _ _ [⟨0, 0⟩, ⟨1, 3⟩] 0 w (hs.ownRo .here) (by decide)) kNq) ?_
  rintro ⟨⟨p105, pc106⟩, ⟨q107, qc108⟩⟩
  refine Ops.q (q_mv rfl) ?_
  refine Ops.q (q_ext rfl rfl) ?_
  refine Ops.q (q_ext rfl rfl) ?_
  refine Ops.stB [.slice p105 wNq.ns.length pc106, .int .i64 wNq.inp, .slice q107 wNq.ss.length qc108] [.slice p105 wNq.ns.length pc106, .int .i64 wNq.inp, .slice q107 wNq.ss.length qc108] sz_32 rfl rfl rfl (one rfl) (.there (.there (.there .here))) rfl rfl ?_
  refine Ops.q (q_asg rfl) ?_
  refine Ops.to rfl ?_
  refine Cd.seq ?_
  refine Cd.draw rfl (by kernel_rfl) (.cons (.there (.there (.there .here))) .nil) ?_
  intro F109 St110 hP111 hF112 hR113
  refine Dr.q (i := 0) hP111 rfl (by kernel_rfl) (q_ldBN [.slice p105 wNq.ns.length pc106, .int .i64 wNq.inp, .slice q107 wNq.ss.length qc108] isA_32 sz_32 rfl .here rfl) ?_
  refine Dr.q (i := 1) hP111 rfl (by kernel_rfl) (q_mv rfl) ?_
  refine Dr.e (i := 2) rfl (by kernel_rfl) ?_
  refine Ops.cp en_39 rfl (fun w hs => at_c 1 0 w) ?_
  refine Dr.back (fun _ hs => hF112 .here hs) ?_
  refine Dr.e (i := 3) rfl (by kernel_rfl) ?_
  refine Ops.cp en_39 rfl (fun w hs => at_c 4 1 w) ?_
  refine Dr.back (fun _ hs => hF112 .here hs) ?_
  refine Dr.e (i := 4) rfl (by kernel_rfl) ?_
  refine Ops.lit [.int .i64 1, .int .i64 0, .int .i64 4, .int .i64 1] el_27 zsb_88 rfl rfl ⟨by decide, by decide⟩ rfl ?_
  intro b114
  refine Dr.back (fun _ hs => hF112 (.there .here) hs) ?_
  refine Dr.e (i := 5) rfl (by kernel_rfl) ?_
  refine Ops.cl (α := Option Addr × Nat) (v := fun p => .slice p.1 1 p.2) (B := fun p => [row p.1 p.2 88 2 1 [.int .i64 17, .int .i64 0]]) en_46 rfl (fun w hs => runW (lawRun_c _ _ _ _ wNq.ns wNq.inp wNq.ss _ _ ([⟨1, 0⟩, ⟨4, 1⟩] : List Evt) 0 20 w (hs.ownRo (.there (.there .here))) (hs.ownRo (.there (.there (.there .here)))) (hs.ownRo .here) (by exact rowle_any hs .here)) kLq) ?_
  rintro ⟨ra115, rc116⟩
  refine Dr.back (fun _ hs => hF112 (.there (.there .here)) hs) ?_
  refine Dr.e (i := 6) rfl (by kernel_rfl) ?_
  refine Ops.cp en_39 rfl (fun w hs => at_c 17 0 w) ?_
  refine Dr.back (fun _ hs => hF112 (.there (.there .here)) hs) ?_
  refine Dr.e (i := 7) rfl (by kernel_rfl) ?_
  refine Ops.lit [.int .i64 17, .int .i64 0] el_27 zsb_88 rfl rfl ⟨by decide, by decide⟩ rfl ?_
  intro b117
  refine Dr.back (fun _ hs => hF112 (.there (.there (.there .here))) hs) ?_
  refine Dr.e (i := 8) rfl (by kernel_rfl) ?_
  refine Ops.cp en_20 rfl (fun w hs => dT (events_c _ _ _ _ ([⟨17, 0⟩] : List Evt) ([⟨17, 0⟩] : List Evt) w (hs.ownRo (.there .here)) (hs.ownRo .here) (by decide)) rfl) ?_
  refine Dr.back (fun _ hs => hF112 (.there (.there (.there .here))) hs) ?_
  refine Dr.tail 9 (by kernel_rfl) ?_
  refine Ops.sat ?_ (fun _ hs => hR113 (.there (.there (.there .here))) hs)
  refine Ops.q (q_asg rfl) ?_
  refine Ops.to rfl ?_
  refine Cd.rt (fn := Try.f13) [.bool true] (by with_reducible repeat (first | exact rq_here | apply rq_then | apply rq_block)) rfl ⟨rfl, trivial⟩ ?_
  intro w' hs'
  exact ⟨rfl, hs'.none⟩
end Go.Proofs.Ytilcdghliigngaa
namespace Go.Proofs.Ytilcdghliigngaa
open Go.RowKit Go.Proofs.YtilcdghliigngaaGl Go.Proofs.YtilcdghliigngaaPm
set_option linter.unusedVariables false
set_option linter.unusedSimpArgs false
def errN {α : Type} (r : Except Int α) : Int := match r with | .ok _ => 0 | .error c => c
theorem retR_any {k : FuncId} {vs : Array Value} {r : Except Int NetP} {w : World} (h : Calls Try.prog k vs w (RetR r w)) :
    Calls Try.prog k vs w fun e w' => ∃ x : (Option Addr × Nat) × (Option Addr × Nat), e = .returned (.tuple #[.agg #[.slice x.1.1 (exN r).ns.length x.1.2, .int .i64 (exN r).inp, .slice x.2.1 (exN r).ss.length x.2.2], .int .i64 (errN r)]) ∧ Sat w w' [row x.1.1 x.1.2 116 8 (exN r).ns.length ((exN r).ns.flatMap ePrm), row x.2.1 x.2.2 126 4 (exN r).ss.length ((exN r).ss.flatMap eSyn)] := by
  cases r with
  | ok N => exact h.mono fun e w' h => by obtain ⟨p, q, h1, h2⟩ := h; exact ⟨(p, q), h1, h2⟩
  | error c => exact h.mono fun e w' h => ⟨((none, 0), (none, 0)), h.1, (h.2.nilRow 126 4).nilRow 116 8⟩
theorem rowmax {w0 w : World} {A R : List Atom} {a : Option Addr} {cap sz m : Nat} {E : TypeId} {cs : List Value} (h : Sat w0 w A) (hp : Pull A (row a cap E sz m cs) R) : m ≤ 9223372036854775807 := by
  obtain ⟨hlen, hown⟩ := h.own hp
  rcases hown with ⟨h0, h00⟩ | ⟨b', cap', cur, hv0, _, hh, h2, h3, h4, h5⟩
  · omega
  · cases hv0; simp only [maxLen] at h3; omega
end Go.Proofs.Ytilcdghliigngaa
namespace Go.Proofs.Ytilcdghliigngaa
open Go.RowKit Go.Proofs.YtilcdghliigngaaGl Go.Proofs.YtilcdghliigngaaPm
set_option linter.unusedVariables false
set_option linter.unusedSimpArgs false
end Go.Proofs.Ytilcdghliigngaa
