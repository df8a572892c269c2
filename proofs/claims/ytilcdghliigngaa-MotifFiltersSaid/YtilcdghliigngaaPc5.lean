/- Part of a claim: the program logic, the contracts of the functions, their models. No condition. -/
import Derived.WalkKit
import Derived.OwnWalkIn
import Derived.TacticsInMore
import Derived.OrdersIn
import Derived.RangeFuncLeaves
import Derived.RangeFuncNested
import Derived.Maps.AppendAt
import Derived.Shelf.Abstract
import Derived.Test.YtilcdghliigngaaProg
import Derived.MapKept
import Derived.Laws.StructEq
import Derived.Laws.OwnMore
import Derived.RangeFuncRecord
import Derived.Lib.SliceRun
import Derived.Lib.AppendZeros
import Derived.Lib.AppendZerosOnto
import Derived.Lib.Overlaps
import Derived.Laws.Externs
import Derived.Test.YtilcdghliigngaaPc4
namespace Go.Proofs.Ytilcdghliigngaa
open Go.RowKit Go.Proofs.YtilcdghliigngaaGl Go.Proofs.YtilcdghliigngaaPm
set_option linter.unusedVariables false
set_option linter.unusedSimpArgs false
theorem rowle_any {w0 w : World} {A R : List Atom} {a : Option Addr} {cap sz m : Nat} {E : TypeId} {cs : List Value} (h : Sat w0 w A) (hp : Pull A (row a cap E sz m cs) R) : m ≤ cap := by
  obtain ⟨hlen, hown⟩ := h.own hp
  rcases hown with ⟨h0, h00⟩ | ⟨b', cap', cur, hv0, _, hh, h2, h3, h4, h5⟩
  · omega
  · cases hv0; exact h2
def exN (r : Except Int NetP) : NetP := match r with | .ok N => N | .error _ => ⟨[], 0, []⟩
theorem retR_ok {k : FuncId} {vs : Array Value} {r : Except Int NetP} {w : World} {N : NetP} (h : Calls Try.prog k vs w (RetR r w)) (hr : r = .ok N) :
    Calls Try.prog k vs w fun e w' => ∃ x : (Option Addr × Nat) × (Option Addr × Nat), e = .returned (.tuple #[.agg #[.slice x.1.1 N.ns.length x.1.2, .int .i64 N.inp, .slice x.2.1 N.ss.length x.2.2], .int .i64 0]) ∧ Sat w w' [row x.1.1 x.1.2 116 8 N.ns.length (N.ns.flatMap ePrm), row x.2.1 x.2.2 126 4 N.ss.length (N.ss.flatMap eSyn)] := by
  subst hr
  exact h.mono fun e w' h => by obtain ⟨p, q, h1, h2⟩ := h; exact ⟨(p, q), h1, h2⟩
theorem retL_ok {k : FuncId} {vs : Array Value} {r : Except Int (List Int)} {w : World} {xs : List Int} (h : Calls Try.prog k vs w (RetL r w)) (hr : r = .ok xs) :
    Calls Try.prog k vs w fun e w' => ∃ p : Option Addr × Nat, e = .returned (.tuple #[.slice p.1 xs.length p.2, .int .i64 0]) ∧ Sat w w' [row p.1 p.2 3 1 xs.length (xs.flatMap eInt)] := by
  subst hr; exact h
theorem retE_ok {k : FuncId} {vs : Array Value} {r : Except Int (List Evt)} {w : World} {xs : List Evt} (h : Calls Try.prog k vs w (RetE r w)) (hr : r = .ok xs) :
    Calls Try.prog k vs w fun e w' => ∃ p : Option Addr × Nat, e = .returned (.tuple #[.slice p.1 xs.length p.2, .int .i64 0]) ∧ Sat w w' [row p.1 p.2 88 2 xs.length (xs.flatMap eEvt)] := by
  subst hr; exact h
theorem runW {k : FuncId} {vs : Array Value} {w : World} {out xs : List Evt} (h : Calls Try.prog k vs w fun e w' => ∃ p : Option Addr × Nat, e = .returned (.slice p.1 out.length p.2) ∧ Sat w w' [row p.1 p.2 88 2 out.length (out.flatMap eEvt)]) (hr : out = xs) :
    Calls Try.prog k vs w fun e w' => ∃ p : Option Addr × Nat, e = .returned (.slice p.1 xs.length p.2) ∧ Sat w w' [row p.1 p.2 88 2 xs.length (xs.flatMap eEvt)] := by
  subst hr; exact h
abbrev wE : List Edg := [⟨0, 1, 5⟩, ⟨0, 2, 2⟩, ⟨2, 1, 2⟩]
def wNp : NetP := exN (pathsP 3 wE 0)
def wNs : NetP := exN (sortP 3)
abbrev wA : List (List Int) := [[0, 1], [1, 0]]
def wNm : NetP := exN (machineP wA 0 [false, true])
abbrev wC : List (List Int × Int) := [([], 0), ([0], 1), ([0, 1], -1), ([2], 2)]
def wNh : NetP := exN (hornP 3 wC)
def wNr : NetP := exN (memP 2 2 [([0], [1])])
def wNc : NetP := exN (countP 1 [⟨0, 5, 1⟩] 2)
def wNq : NetP := exN (patP 2 [⟨0, 0⟩, ⟨1, 3⟩] 0)
theorem kNp : pathsP 3 wE 0 = .ok wNp := by kernel_rfl
theorem kNs : sortP 3 = .ok wNs := by kernel_rfl
theorem kNm : machineP wA 0 [false, true] = .ok wNm := by kernel_rfl
theorem kNh : hornP 3 wC = .ok wNh := by kernel_rfl
theorem kNr : memP 2 2 [([0], [1])] = .ok wNr := by kernel_rfl
theorem kNc : countP 1 [⟨0, 5, 1⟩] 2 = .ok wNc := by kernel_rfl
theorem kNq : patP 2 [⟨0, 0⟩, ⟨1, 3⟩] 0 = .ok wNq := by kernel_rfl
theorem kLp : lawRun wNp 0 48 [⟨0, 0⟩] = [⟨1, 0⟩, ⟨3, 2⟩, ⟨5, 1⟩] := by kernel_rfl
theorem kLs : lawRun wNs 0 9 [⟨2, 1⟩, ⟨5, 0⟩, ⟨5, 2⟩] = [⟨3, 0⟩, ⟨6, 1⟩, ⟨6, 2⟩] := by kernel_rfl
theorem kDp : distP 3 [⟨1, 0⟩, ⟨3, 2⟩, ⟨5, 1⟩] = .ok [0, 4, 2] := by kernel_rfl
theorem kBp : befP 3 wE [0, 4, 2] = .ok [-1, 2, 0] := by kernel_rfl
theorem kWm : wordP wA 0 2 [1, 1, 0] = .ok [⟨0, 1⟩, ⟨0, 2⟩, ⟨3, 1⟩, ⟨6, 0⟩] := by kernel_rfl
theorem kLm : lawRun wNm 0 12 [⟨0, 1⟩, ⟨0, 2⟩, ⟨3, 1⟩, ⟨6, 0⟩] = [⟨1, 0⟩, ⟨2, 3⟩, ⟨4, 1⟩, ⟨5, 5⟩, ⟨5, 6⟩, ⟨7, 0⟩, ⟨8, 2⟩, ⟨10, 0⟩] := by kernel_rfl
theorem kSm : statesP wA 0 2 [⟨1, 0⟩, ⟨2, 3⟩, ⟨4, 1⟩, ⟨5, 5⟩, ⟨5, 6⟩, ⟨7, 0⟩, ⟨8, 2⟩, ⟨10, 0⟩] = .ok [0, 1, 0, 0] := by kernel_rfl
theorem kLh : lawRun wNh 0 9 [⟨0, 0⟩] = [⟨1, 4⟩, ⟨2, 0⟩, ⟨3, 5⟩, ⟨4, 1⟩, ⟨5, 6⟩, ⟨6, 3⟩] := by kernel_rfl
theorem kLr : lawRun wNr 0 9 [⟨4, 0⟩, ⟨4, 2⟩] = [⟨5, 1⟩] := by kernel_rfl
theorem kLc : lawRun wNc 0 9 [⟨0, 0⟩] = [⟨1, 0⟩, ⟨2, 0⟩] := by kernel_rfl
theorem kLq : lawRun wNq 0 20 [⟨1, 0⟩, ⟨4, 1⟩] = [⟨17, 0⟩] := by kernel_rfl
theorem works_c (w : World) : Calls Try.prog 13 [].toArray w fun e w' => e = .returned (.bool true) ∧ Sat w w' [] := by
  refine fstart Try.func13 rfl rfl (Sat.nil w) ?_
  refine Cd.seq ?_
  refine Cd.region ?_
  refine Ops.q (q_asg rfl) ?_
  refine Ops.to rfl ?_
  refine Cd.seq ?_
  refine Cd.region ?_
  refine Ops.q (q_bld [.int .i64 0, .int .i64 1, .int .i64 5] pls_82 zc_82 rfl rfl) ?_
  refine Ops.q (q_bld [.int .i64 0, .int .i64 2, .int .i64 2] pls_82 zc_82 rfl rfl) ?_
  refine Ops.q (q_bld [.int .i64 2, .int .i64 1, .int .i64 2] pls_82 zc_82 rfl rfl) ?_
  refine Ops.lit [.int .i64 0, .int .i64 1, .int .i64 5, .int .i64 0, .int .i64 2, .int .i64 2, .int .i64 2, .int .i64 1, .int .i64 2] el_80 zsb_82 rfl rfl ⟨by decide, by decide⟩ rfl ?_
  intro b1
  refine Ops.q (q_asg rfl) ?_
  refine Ops.to rfl ?_
  refine Cd.seq ?_
  refine Cd.region ?_
  refine Ops.q (q_mv rfl) ?_
  refine Ops.cl (α := (Option Addr × Nat) × (Option Addr × Nat)) (v := fun x => .tuple [.agg [.slice x.1.1 wNp.ns.length x.1.2, .int .i64 wNp.inp, .slice x.2.1 wNp.ss.length x.2.2].toArray, .int .i64 0].toArray) (B := fun x => [row x.1.1 x.1.2 116 8 wNp.ns.length (wNp.ns.flatMap ePrm), row x.2.1 x.2.2 126 4 wNp.ss.length (wNp.ss.flatMap eSyn)]) en_34 rfl (fun w hs => retR_ok (paths_c 3 _ _ [⟨0, 1, 5⟩, ⟨0, 2, 2⟩, ⟨2, 1, 2⟩] 0 w (hs.ownRo .here)) kNp) ?_
  rintro ⟨⟨p2, pc3⟩, ⟨q4, qc5⟩⟩
  refine Ops.q (q_mv rfl) ?_
  refine Ops.q (q_ext rfl rfl) ?_
  refine Ops.q (q_ext rfl rfl) ?_
  refine Ops.alc [.slice none 0 0, .int .i64 0, .slice none 0 0] zc_32 ?_
  intro b6
  refine Ops.stB [.slice p2 wNp.ns.length pc3, .int .i64 wNp.inp, .slice q4 wNp.ss.length qc5] [.slice p2 wNp.ns.length pc3, .int .i64 wNp.inp, .slice q4 wNp.ss.length qc5] sz_32 rfl rfl rfl (one rfl) .here rfl rfl ?_
  refine Ops.q (q_asg rfl) ?_
  refine Ops.to rfl ?_
  refine Cd.seq ?_
  refine Cd.draw rfl (by kernel_rfl) (.cons .here .nil) ?_
  intro F7 St8 hP9 hF10 hR11
  refine Dr.q (i := 0) hP9 rfl (by kernel_rfl) (q_ldBN [.slice p2 wNp.ns.length pc3, .int .i64 wNp.inp, .slice q4 wNp.ss.length qc5] isA_32 sz_32 rfl .here rfl) ?_
  refine Dr.q (i := 1) hP9 rfl (by kernel_rfl) (q_mv rfl) ?_
  refine Dr.e (i := 2) rfl (by kernel_rfl) ?_
  refine Ops.cp en_39 rfl (fun w hs => at_c 0 0 w) ?_
  refine Dr.back (fun _ hs => hF10 .here hs) ?_
  refine Dr.e (i := 3) rfl (by kernel_rfl) ?_
  refine Ops.lit [.int .i64 0, .int .i64 0] el_27 zsb_88 rfl rfl ⟨by decide, by decide⟩ rfl ?_
  intro b12
  refine Dr.back (fun _ hs => hF10 (.there .here) hs) ?_
  refine Dr.tail 4 (by kernel_rfl) ?_
  refine Ops.sat ?_ (fun _ hs => hR11 (.there .here) hs)
  refine Ops.cl (α := Option Addr × Nat) (v := fun p => .slice p.1 3 p.2) (B := fun p => [row p.1 p.2 88 2 3 [.int .i64 1, .int .i64 0, .int .i64 3, .int .i64 2, .int .i64 5, .int .i64 1]]) en_46 rfl (fun w hs => runW (lawRun_c _ _ _ _ wNp.ns wNp.inp wNp.ss _ _ ([⟨0, 0⟩] : List Evt) 0 48 w (hs.ownRo (.there (.there .here))) (hs.ownRo (.there (.there (.there .here)))) (hs.ownRo (.there .here)) (by exact rowle_any hs (.there .here))) kLp) ?_
  rintro ⟨ra13, rc14⟩
  refine Ops.q (q_asg rfl) ?_
  refine Ops.to rfl ?_
  refine Cd.seq ?_
  refine Cd.region ?_
  refine Ops.q (q_mv rfl) ?_
  refine Ops.cl (α := Option Addr × Nat) (v := fun p => .tuple [.slice p.1 3 p.2, .int .i64 0].toArray) (B := fun p => [row p.1 p.2 3 1 3 [.int .i64 0, .int .i64 4, .int .i64 2]]) en_37 rfl (fun w hs => retL_ok (dist_c 3 _ _ ([⟨1, 0⟩, ⟨3, 2⟩, ⟨5, 1⟩] : List Evt) w (hs.ownRo .here) (by decide)) kDp) ?_
  rintro ⟨la15, lc16⟩
  refine Ops.q (q_mv rfl) ?_
  refine Ops.q (q_ext rfl rfl) ?_
  refine Ops.q (q_ext rfl rfl) ?_
  refine Ops.q (q_asg rfl) ?_
  refine Ops.q (q_asg rfl) ?_
  refine Ops.to rfl ?_
  refine Cd.seq ?_
  refine Cd.region ?_
  refine Ops.q (q_mv rfl) ?_
  refine Ops.q (q_mv rfl) ?_
  refine Ops.cl (α := Option Addr × Nat) (v := fun p => .tuple [.slice p.1 3 p.2, .int .i64 0].toArray) (B := fun p => [row p.1 p.2 3 1 3 [.int .i64 (-1), .int .i64 2, .int .i64 0]]) en_38 rfl (fun w hs => retL_ok (before_c 3 _ _ wE _ _ [0, 4, 2] w (hs.ownRo (.there (.there (.there (.there (.there (.there .here))))))) (hs.ownRo .here)) kBp) ?_
  rintro ⟨la17, lc18⟩
  refine Ops.q (q_mv rfl) ?_
  refine Ops.q (q_ext rfl rfl) ?_
  refine Ops.q (q_ext rfl rfl) ?_
  refine Ops.q (q_asg rfl) ?_
  refine Ops.q (q_asg rfl) ?_
  refine Ops.to rfl ?_
  refine Cd.seq ?_
  refine Cd.seq ?_
  refine Cd.region ?_
  refine Ops.q (q_mv rfl) ?_
  refine Ops.cp en_39 rfl (fun w hs => at_c 1 0 w) ?_
  refine Ops.cp en_39 rfl (fun w hs => at_c 3 2 w) ?_
  refine Ops.cp en_39 rfl (fun w hs => at_c 5 1 w) ?_
  refine Ops.lit [.int .i64 1, .int .i64 0, .int .i64 3, .int .i64 2, .int .i64 5, .int .i64 1] el_27 zsb_88 rfl rfl ⟨by decide, by decide⟩ rfl ?_
  intro b19
  refine Ops.cp en_20 rfl (fun w hs => dT (events_c _ _ _ _ ([⟨1, 0⟩, ⟨3, 2⟩, ⟨5, 1⟩] : List Evt) ([⟨1, 0⟩, ⟨3, 2⟩, ⟨5, 1⟩] : List Evt) w (hs.ownRo (.there (.there (.there .here)))) (hs.ownRo .here) (by decide)) rfl) ?_
  refine Ops.q (q_not rfl) ?_
  refine Ops.q (q_mv rfl) ?_
  refine Ops.q (q_mv rfl) ?_
  refine Ops.q (q_cmp rfl rfl (c_nne (by decide))) ?_
  refine Ops.q (q_pickF rfl rfl) ?_
  refine Ops.q (q_mv rfl) ?_
  refine Ops.q (q_mv rfl) ?_
  refine Ops.q (q_cmp rfl rfl (c_nne (by decide))) ?_
  refine Ops.q (q_pickF rfl rfl) ?_
  refine Ops.q (q_mv rfl) ?_
  refine Ops.q (q_mv rfl) ?_
  refine Ops.lit [.int .i64 0, .int .i64 4, .int .i64 2] el_26 zsb_3 rfl rfl ⟨by decide, by decide⟩ rfl ?_
  intro b20
  refine Ops.cp en_23 rfl (fun w hs => dT (numbers_c _ _ _ _ ([0, 4, 2] : List Int) ([0, 4, 2] : List Int) w (hs.ownRo (.there (.there (.there .here)))) (hs.ownRo .here) (by decide)) rfl) ?_
  refine Ops.q (q_not rfl) ?_
  refine Ops.q (q_pickF rfl rfl) ?_
  refine Ops.q (q_mv rfl) ?_
  refine Ops.q (q_mv rfl) ?_
  refine Ops.lit [.int .i64 (-1), .int .i64 2, .int .i64 0] el_26 zsb_3 rfl rfl ⟨by decide, by decide⟩ rfl ?_
  intro b21
  refine Ops.cp en_23 rfl (fun w hs => dT (numbers_c _ _ _ _ ([-1, 2, 0] : List Int) ([-1, 2, 0] : List Int) w (hs.ownRo (.there (.there (.there .here)))) (hs.ownRo .here) (by decide)) rfl) ?_
  refine Ops.q (q_not rfl) ?_
  refine Ops.q (q_pickF rfl rfl) ?_
  refine Ops.to rfl ?_
  refine Cd.cond_f rfl ?_
  refine Cd.skipTo rfl ?_
  refine Cd.seq ?_
  refine Cd.sat ?_ (fun _ hs => (((((((((((hs.pull (.there (.there (.there (.there (.there (.there .here))))))).pull (.there .here)).drop.pull (.there .here)).drop.pull (.there .here)).drop.pull (.there .here)).drop.pull (.there .here)).drop.pull (.there .here)).drop.pull (.there .here)).drop.pull (.there .here)).drop.pull (.there .here)).drop.pull (.there .here)).drop)
  refine Cd.region ?_
  refine Ops.cl (α := (Option Addr × Nat) × (Option Addr × Nat)) (v := fun x => .tuple [.agg [.slice x.1.1 wNs.ns.length x.1.2, .int .i64 wNs.inp, .slice x.2.1 wNs.ss.length x.2.2].toArray, .int .i64 0].toArray) (B := fun x => [row x.1.1 x.1.2 116 8 wNs.ns.length (wNs.ns.flatMap ePrm), row x.2.1 x.2.2 126 4 wNs.ss.length (wNs.ss.flatMap eSyn)]) en_24 rfl (fun w hs => retR_ok (sort_c 3 w) kNs) ?_
  rintro ⟨⟨p22, pc23⟩, ⟨q24, qc25⟩⟩
  refine Ops.q (q_mv rfl) ?_
  refine Ops.q (q_ext rfl rfl) ?_
  refine Ops.q (q_ext rfl rfl) ?_
  refine Ops.stB [.slice p22 wNs.ns.length pc23, .int .i64 wNs.inp, .slice q24 wNs.ss.length qc25] [.slice p22 wNs.ns.length pc23, .int .i64 wNs.inp, .slice q24 wNs.ss.length qc25] sz_32 rfl rfl rfl (one rfl) (.there (.there .here)) rfl rfl ?_
  refine Ops.q (q_asg rfl) ?_
  refine Ops.to rfl ?_
  refine Cd.seq ?_
  refine Cd.seq ?_
  refine Cd.draw rfl (by kernel_rfl) (.cons (.there (.there .here)) .nil) ?_
  intro F26 St27 hP28 hF29 hR30
  refine Dr.q (i := 0) hP28 rfl (by kernel_rfl) (q_ldBN [.slice p22 wNs.ns.length pc23, .int .i64 wNs.inp, .slice q24 wNs.ss.length qc25] isA_32 sz_32 rfl .here rfl) ?_
  refine Dr.q (i := 1) hP28 rfl (by kernel_rfl) (q_mv rfl) ?_
  refine Dr.e (i := 2) rfl (by kernel_rfl) ?_
  refine Ops.cp en_39 rfl (fun w hs => at_c 2 1 w) ?_
  refine Dr.back (fun _ hs => hF29 .here hs) ?_
  refine Dr.e (i := 3) rfl (by kernel_rfl) ?_
  refine Ops.cp en_39 rfl (fun w hs => at_c 5 0 w) ?_
  refine Dr.back (fun _ hs => hF29 .here hs) ?_
  refine Dr.e (i := 4) rfl (by kernel_rfl) ?_
  refine Ops.cp en_39 rfl (fun w hs => at_c 5 2 w) ?_
  refine Dr.back (fun _ hs => hF29 .here hs) ?_
  refine Dr.e (i := 5) rfl (by kernel_rfl) ?_
  refine Ops.lit [.int .i64 2, .int .i64 1, .int .i64 5, .int .i64 0, .int .i64 5, .int .i64 2] el_27 zsb_88 rfl rfl ⟨by decide, by decide⟩ rfl ?_
  intro b31
  refine Dr.back (fun _ hs => hF29 (.there .here) hs) ?_
  refine Dr.e (i := 6) rfl (by kernel_rfl) ?_
  refine Ops.cl (α := Option Addr × Nat) (v := fun p => .slice p.1 3 p.2) (B := fun p => [row p.1 p.2 88 2 3 [.int .i64 3, .int .i64 0, .int .i64 6, .int .i64 1, .int .i64 6, .int .i64 2]]) en_46 rfl (fun w hs => runW (lawRun_c _ _ _ _ wNs.ns wNs.inp wNs.ss _ _ ([⟨2, 1⟩, ⟨5, 0⟩, ⟨5, 2⟩] : List Evt) 0 9 w (hs.ownRo (.there (.there .here))) (hs.ownRo (.there (.there (.there .here)))) (hs.ownRo .here) (by exact rowle_any hs .here)) kLs) ?_
  rintro ⟨ra32, rc33⟩
  refine Dr.back (fun _ hs => hF29 (.there (.there .here)) hs) ?_
  refine Dr.e (i := 7) rfl (by kernel_rfl) ?_
  refine Ops.cp en_39 rfl (fun w hs => at_c 3 0 w) ?_
  refine Dr.back (fun _ hs => hF29 (.there (.there .here)) hs) ?_
  refine Dr.e (i := 8) rfl (by kernel_rfl) ?_
  refine Ops.cp en_39 rfl (fun w hs => at_c 6 1 w) ?_
  refine Dr.back (fun _ hs => hF29 (.there (.there .here)) hs) ?_
  refine Dr.e (i := 9) rfl (by kernel_rfl) ?_
  refine Ops.cp en_39 rfl (fun w hs => at_c 6 2 w) ?_
  refine Dr.back (fun _ hs => hF29 (.there (.there .here)) hs) ?_
  refine Dr.e (i := 10) rfl (by kernel_rfl) ?_
  refine Ops.lit [.int .i64 3, .int .i64 0, .int .i64 6, .int .i64 1, .int .i64 6, .int .i64 2] el_27 zsb_88 rfl rfl ⟨by decide, by decide⟩ rfl ?_
  intro b34
  refine Dr.back (fun _ hs => hF29 (.there (.there (.there .here))) hs) ?_
  refine Dr.e (i := 11) rfl (by kernel_rfl) ?_
  refine Ops.cp en_20 rfl (fun w hs => dT (events_c _ _ _ _ ([⟨3, 0⟩, ⟨6, 1⟩, ⟨6, 2⟩] : List Evt) ([⟨3, 0⟩, ⟨6, 1⟩, ⟨6, 2⟩] : List Evt) w (hs.ownRo (.there .here)) (hs.ownRo .here) (by decide)) rfl) ?_
  refine Dr.back (fun _ hs => hF29 (.there (.there (.there .here))) hs) ?_
  refine Dr.q (i := 12) hP28 rfl (by kernel_rfl) (q_not rfl) ?_
  refine Dr.tail 13 (by kernel_rfl) ?_
  refine Ops.sat ?_ (fun _ hs => hR30 (.there (.there (.there .here))) hs)
  refine Ops.to rfl ?_
  refine Cd.cond_f rfl ?_
  refine Cd.skipTo rfl ?_
  refine Cd.seq ?_
  refine Cd.sat ?_ (fun _ hs => ((((((hs.pull .here).pull (.there .here)).drop.pull (.there .here)).drop.pull (.there .here)).drop.pull (.there .here)).drop.pull (.there .here)).drop)
  refine Cd.region ?_
  refine Ops.lit [.int .i64 0, .int .i64 1] el_26 zsb_3 rfl rfl ⟨by decide, by decide⟩ rfl ?_
  intro b35
  refine Ops.lit [.int .i64 1, .int .i64 0] el_26 zsb_3 rfl rfl ⟨by decide, by decide⟩ rfl ?_
  intro b36
  refine Ops.lit [.slice (some ⟨b35, 0, none⟩) 2 2, .slice (some ⟨b36, 0, none⟩) 2 2] el_22 zsb_26 rfl rfl ⟨by decide, by decide⟩ rfl ?_
  intro b37
  refine Ops.lit [.bool false, .bool true] el_23 zsb_4 rfl rfl ⟨by decide, by decide⟩ rfl ?_
  intro b38
  refine Ops.q (q_bld [.slice (some ⟨b37, 0, none⟩) 2 2, .int .i64 0, .slice (some ⟨b38, 0, none⟩) 2 2] pls_36 zc_36 rfl rfl) ?_
  refine Ops.alc [.slice none 0 0, .int .i64 0, .slice none 0 0] zc_36 ?_
  intro b39
  refine Ops.stB [.slice (some ⟨b37, 0, none⟩) 2 2, .int .i64 0, .slice (some ⟨b38, 0, none⟩) 2 2] [.slice (some ⟨b37, 0, none⟩) 2 2, .int .i64 0, .slice (some ⟨b38, 0, none⟩) 2 2] sz_36 rfl rfl rfl (one rfl) .here rfl rfl ?_
  refine Ops.to rfl ?_
  refine Cd.seq ?_
  refine Cd.region ?_
  refine Ops.q (q_ldBN [.slice (some ⟨b37, 0, none⟩) 2 2, .int .i64 0, .slice (some ⟨b38, 0, none⟩) 2 2] isA_36 sz_36 rfl .here rfl) ?_
  refine Ops.cl (α := (Option Addr × Nat) × (Option Addr × Nat)) (v := fun x => .tuple [.agg [.slice x.1.1 wNm.ns.length x.1.2, .int .i64 wNm.inp, .slice x.2.1 wNm.ss.length x.2.2].toArray, .int .i64 0].toArray) (B := fun x => [row x.1.1 x.1.2 116 8 wNm.ns.length (wNm.ns.flatMap ePrm), row x.2.1 x.2.2 126 4 wNm.ss.length (wNm.ss.flatMap eSyn)]) en_14 rfl (fun w hs => retR_ok (machine_c _ _ [(((some ⟨b35, 0, none⟩, 2), ([0, 1] : List Int)) : NL), (((some ⟨b36, 0, none⟩, 2), ([1, 0] : List Int)) : NL)] 0 _ _ [false, true] w ⟨hs.ownRo (.there (.there .here)), List.forall_mem_cons.2 ⟨hs.ownRo (.there (.there (.there (.there .here)))), List.forall_mem_cons.2 ⟨hs.ownRo (.there (.there (.there .here))), fun _ h => by cases h⟩⟩⟩ (hs.ownRo (.there .here))) kNm) ?_
  rintro ⟨⟨p40, pc41⟩, ⟨q42, qc43⟩⟩
  refine Ops.q (q_mv rfl) ?_
  refine Ops.q (q_ext rfl rfl) ?_
  refine Ops.q (q_ext rfl rfl) ?_
  refine Ops.stB [.slice p40 wNm.ns.length pc41, .int .i64 wNm.inp, .slice q42 wNm.ss.length qc43] [.slice p40 wNm.ns.length pc41, .int .i64 wNm.inp, .slice q42 wNm.ss.length qc43] sz_32 rfl rfl rfl (one rfl) (.there (.there (.there (.there (.there (.there (.there .here))))))) rfl rfl ?_
  refine Ops.q (q_asg rfl) ?_
  refine Ops.to rfl ?_
  refine Cd.seq ?_
  refine Cd.region ?_
  refine Ops.q (q_ldBN [.slice (some ⟨b37, 0, none⟩) 2 2, .int .i64 0, .slice (some ⟨b38, 0, none⟩) 2 2] isA_36 sz_36 rfl (.there (.there .here)) rfl) ?_
  refine Ops.lit [.int .i64 1, .int .i64 1, .int .i64 0] el_26 zsb_3 rfl rfl ⟨by decide, by decide⟩ rfl ?_
  intro b44
  refine Ops.cl (α := Option Addr × Nat) (v := fun p => .tuple [.slice p.1 4 p.2, .int .i64 0].toArray) (B := fun p => [row p.1 p.2 88 2 4 [.int .i64 0, .int .i64 1, .int .i64 0, .int .i64 2, .int .i64 3, .int .i64 1, .int .i64 6, .int .i64 0]]) en_18 rfl (fun w hs => retE_ok (word_c _ _ [(((some ⟨b35, 0, none⟩, 2), ([0, 1] : List Int)) : NL), (((some ⟨b36, 0, none⟩, 2), ([1, 0] : List Int)) : NL)] 0 _ 2 _ _ _ [1, 1, 0] w ⟨hs.ownRo (.there (.there (.there (.there (.there .here))))), List.forall_mem_cons.2 ⟨hs.ownRo (.there (.there (.there (.there (.there (.there (.there .here))))))), List.forall_mem_cons.2 ⟨hs.ownRo (.there (.there (.there (.there (.there (.there .here)))))), fun _ h => by cases h⟩⟩⟩ (hs.ownRo .here)) kWm) ?_
  rintro ⟨la45, lc46⟩
  refine Ops.q (q_mv rfl) ?_
  refine Ops.q (q_ext rfl rfl) ?_
  refine Ops.q (q_ext rfl rfl) ?_
  refine Ops.q (q_asg rfl) ?_
  refine Ops.q (q_asg rfl) ?_
  refine Ops.to rfl ?_
  refine Cd.seq ?_
  refine Cd.region ?_
  refine Ops.q (q_ldBN [.slice p40 wNm.ns.length pc41, .int .i64 wNm.inp, .slice q42 wNm.ss.length qc43] isA_32 sz_32 rfl (.there (.there (.there (.there (.there (.there (.there (.there (.there .here))))))))) rfl) ?_
  refine Ops.q (q_mv rfl) ?_
  refine Ops.q (q_mv rfl) ?_
  refine Ops.cl (α := Option Addr × Nat) (v := fun p => .slice p.1 8 p.2) (B := fun p => [row p.1 p.2 88 2 8 [.int .i64 1, .int .i64 0, .int .i64 2, .int .i64 3, .int .i64 4, .int .i64 1, .int .i64 5, .int .i64 5, .int .i64 5, .int .i64 6, .int .i64 7, .int .i64 0, .int .i64 8, .int .i64 2, .int .i64 10, .int .i64 0]]) en_46 rfl (fun w hs => runW (lawRun_c _ _ _ _ wNm.ns wNm.inp wNm.ss _ _ ([⟨0, 1⟩, ⟨0, 2⟩, ⟨3, 1⟩, ⟨6, 0⟩] : List Evt) 0 12 w (hs.ownRo (.there (.there .here))) (hs.ownRo (.there (.there (.there .here)))) (hs.ownRo .here) (by exact rowle_any hs .here)) kLm) ?_
  rintro ⟨ra47, rc48⟩
  refine Ops.q (q_asg rfl) ?_
  refine Ops.to rfl ?_
  refine Cd.seq ?_
  refine Cd.region ?_
  refine Ops.q (q_ldBN [.slice (some ⟨b37, 0, none⟩) 2 2, .int .i64 0, .slice (some ⟨b38, 0, none⟩) 2 2] isA_36 sz_36 rfl (.there (.there (.there (.there (.there .here))))) rfl) ?_
  refine Ops.q (q_mv rfl) ?_
  refine Ops.cl (α := Option Addr × Nat) (v := fun p => .tuple [.slice p.1 4 p.2, .int .i64 0].toArray) (B := fun p => [row p.1 p.2 3 1 4 [.int .i64 0, .int .i64 1, .int .i64 0, .int .i64 0]]) en_21 rfl (fun w hs => retL_ok (states_c _ _ [(((some ⟨b35, 0, none⟩, 2), ([0, 1] : List Int)) : NL), (((some ⟨b36, 0, none⟩, 2), ([1, 0] : List Int)) : NL)] 0 _ 2 _ _ _ ([⟨1, 0⟩, ⟨2, 3⟩, ⟨4, 1⟩, ⟨5, 5⟩, ⟨5, 6⟩, ⟨7, 0⟩, ⟨8, 2⟩, ⟨10, 0⟩] : List Evt) w ⟨hs.ownRo (.there (.there (.there (.there (.there (.there (.there .here))))))), List.forall_mem_cons.2 ⟨hs.ownRo (.there (.there (.there (.there (.there (.there (.there (.there (.there .here))))))))), List.forall_mem_cons.2 ⟨hs.ownRo (.there (.there (.there (.there (.there (.there (.there (.there .here)))))))), fun _ h => by cases h⟩⟩⟩ (hs.ownRo .here) (by decide)) kSm) ?_
  rintro ⟨la49, lc50⟩
  refine Ops.q (q_mv rfl) ?_
  refine Ops.q (q_ext rfl rfl) ?_
  refine Ops.q (q_ext rfl rfl) ?_
  refine Ops.q (q_asg rfl) ?_
  refine Ops.q (q_asg rfl) ?_
  refine Ops.to rfl ?_
  refine Cd.seq ?_
  refine Cd.seq ?_
  refine Cd.region ?_
  refine Ops.q (q_mv rfl) ?_
  refine Ops.q (q_cmp rfl rfl (c_nne (by decide))) ?_
  refine Ops.q (q_mv rfl) ?_
  refine Ops.q (q_mv rfl) ?_
  refine Ops.q (q_cmp rfl rfl (c_nne (by decide))) ?_
  refine Ops.q (q_pickF rfl rfl) ?_
  refine Ops.q (q_mv rfl) ?_
  refine Ops.q (q_mv rfl) ?_
  refine Ops.cp en_39 rfl (fun w hs => at_c 0 1 w) ?_
  refine Ops.cp en_39 rfl (fun w hs => at_c 0 2 w) ?_
  refine Ops.cp en_39 rfl (fun w hs => at_c 3 1 w) ?_
  refine Ops.cp en_39 rfl (fun w hs => at_c 6 0 w) ?_
  refine Ops.lit [.int .i64 0, .int .i64 1, .int .i64 0, .int .i64 2, .int .i64 3, .int .i64 1, .int .i64 6, .int .i64 0] el_27 zsb_88 rfl rfl ⟨by decide, by decide⟩ rfl ?_
  intro b51
  refine Ops.cp en_20 rfl (fun w hs => dT (events_c _ _ _ _ ([⟨0, 1⟩, ⟨0, 2⟩, ⟨3, 1⟩, ⟨6, 0⟩] : List Evt) ([⟨0, 1⟩, ⟨0, 2⟩, ⟨3, 1⟩, ⟨6, 0⟩] : List Evt) w (hs.ownRo (.there (.there (.there .here)))) (hs.ownRo .here) (by decide)) rfl) ?_
  refine Ops.q (q_not rfl) ?_
  refine Ops.q (q_pickF rfl rfl) ?_
  refine Ops.q (q_mv rfl) ?_
  refine Ops.q (q_mv rfl) ?_
  refine Ops.lit [.int .i64 0, .int .i64 1, .int .i64 0, .int .i64 0] el_26 zsb_3 rfl rfl ⟨by decide, by decide⟩ rfl ?_
  intro b52
  refine Ops.cp en_23 rfl (fun w hs => dT (numbers_c _ _ _ _ ([0, 1, 0, 0] : List Int) ([0, 1, 0, 0] : List Int) w (hs.ownRo (.there (.there .here))) (hs.ownRo .here) (by decide)) rfl) ?_
  refine Ops.q (q_not rfl) ?_
  refine Ops.q (q_pickF rfl rfl) ?_
  refine Ops.to rfl ?_
  refine Cd.cond_f rfl ?_
  refine Cd.skipTo rfl ?_
  refine Cd.seq ?_
  refine Cd.sat ?_ (fun _ hs => ((((((((((((((hs.pull (.there (.there (.there (.there (.there (.there (.there (.there (.there (.there (.there (.there (.there .here)))))))))))))).pull (.there .here)).drop.pull (.there .here)).drop.pull (.there .here)).drop.pull (.there .here)).drop.pull (.there .here)).drop.pull (.there .here)).drop.pull (.there .here)).drop.pull (.there .here)).drop.pull (.there .here)).drop.pull (.there .here)).drop.pull (.there .here)).drop.pull (.there .here)).drop.pull (.there .here)).drop)
  refine Cd.region ?_
  refine Ops.q (q_bld [.slice none 0 0, .int .i64 0] pls_55 zc_55 rfl rfl) ?_
  refine Ops.lit [.int .i64 0] el_26 zsb_3 rfl rfl ⟨by decide, by decide⟩ rfl ?_
  intro b53
  refine Ops.q (q_bld [.slice (some ⟨b53, 0, none⟩) 1 1, .int .i64 1] pls_55 zc_55 rfl rfl) ?_
  refine Ops.lit [.int .i64 0, .int .i64 1] el_26 zsb_3 rfl rfl ⟨by decide, by decide⟩ rfl ?_
  intro b54
  refine Ops.q (q_bld [.slice (some ⟨b54, 0, none⟩) 2 2, .int .i64 (-1)] pls_55 zc_55 rfl rfl) ?_
  refine Ops.lit [.int .i64 2] el_26 zsb_3 rfl rfl ⟨by decide, by decide⟩ rfl ?_
  intro b55
  refine Ops.q (q_bld [.slice (some ⟨b55, 0, none⟩) 1 1, .int .i64 2] pls_55 zc_55 rfl rfl) ?_
  refine Ops.lit [.slice none 0 0, .int .i64 0, .slice (some ⟨b53, 0, none⟩) 1 1, .int .i64 1, .slice (some ⟨b54, 0, none⟩) 2 2, .int .i64 (-1), .slice (some ⟨b55, 0, none⟩) 1 1, .int .i64 2] el_52 zsb_55 rfl rfl ⟨by decide, by decide⟩ rfl ?_
  intro b56
  refine Ops.cl (α := (Option Addr × Nat) × (Option Addr × Nat)) (v := fun x => .tuple [.agg [.slice x.1.1 wNh.ns.length x.1.2, .int .i64 wNh.inp, .slice x.2.1 wNh.ss.length x.2.2].toArray, .int .i64 0].toArray) (B := fun x => [row x.1.1 x.1.2 116 8 wNh.ns.length (wNh.ns.flatMap ePrm), row x.2.1 x.2.2 126 4 wNh.ss.length (wNh.ss.flatMap eSyn)]) en_26 rfl (fun w hs => retR_ok (horn_c 3 _ _ [((((none, 0), []), 0) : CL), ((((some ⟨b53, 0, none⟩, 1), ([0] : List Int)), 1) : CL), ((((some ⟨b54, 0, none⟩, 2), ([0, 1] : List Int)), -1) : CL), ((((some ⟨b55, 0, none⟩, 1), ([2] : List Int)), 2) : CL)] w ⟨hs.ownRo .here, List.forall_mem_cons.2 ⟨(Ro.nil _ _), List.forall_mem_cons.2 ⟨hs.ownRo (.there (.there (.there .here))), List.forall_mem_cons.2 ⟨hs.ownRo (.there (.there .here)), List.forall_mem_cons.2 ⟨hs.ownRo (.there .here), fun _ h => by cases h⟩⟩⟩⟩⟩) kNh) ?_
  rintro ⟨⟨p57, pc58⟩, ⟨q59, qc60⟩⟩
  refine Ops.q (q_mv rfl) ?_
  refine Ops.q (q_ext rfl rfl) ?_
  refine Ops.q (q_ext rfl rfl) ?_
  refine Ops.stB [.slice p57 wNh.ns.length pc58, .int .i64 wNh.inp, .slice q59 wNh.ss.length qc60] [.slice p57 wNh.ns.length pc58, .int .i64 wNh.inp, .slice q59 wNh.ss.length qc60] sz_32 rfl rfl rfl (one rfl) (.there (.there (.there (.there (.there (.there .here)))))) rfl rfl ?_
  refine Ops.q (q_asg rfl) ?_
  refine Ops.to rfl ?_
  refine Cd.seq ?_
  refine Cd.seq ?_
  refine Cd.draw rfl (by kernel_rfl) (.cons (.there (.there (.there (.there (.there (.there .here)))))) .nil) ?_
  intro F61 St62 hP63 hF64 hR65
  refine Dr.q (i := 0) hP63 rfl (by kernel_rfl) (q_ldBN [.slice p57 wNh.ns.length pc58, .int .i64 wNh.inp, .slice q59 wNh.ss.length qc60] isA_32 sz_32 rfl .here rfl) ?_
  refine Dr.q (i := 1) hP63 rfl (by kernel_rfl) (q_mv rfl) ?_
  refine Dr.e (i := 2) rfl (by kernel_rfl) ?_
  refine Ops.cp en_39 rfl (fun w hs => at_c 0 0 w) ?_
  refine Dr.back (fun _ hs => hF64 .here hs) ?_
  refine Dr.e (i := 3) rfl (by kernel_rfl) ?_
  refine Ops.lit [.int .i64 0, .int .i64 0] el_27 zsb_88 rfl rfl ⟨by decide, by decide⟩ rfl ?_
  intro b66
  refine Dr.back (fun _ hs => hF64 (.there .here) hs) ?_
  refine Dr.tail 4 (by kernel_rfl) ?_
  refine Ops.sat ?_ (fun _ hs => hR65 (.there .here) hs)
  refine Ops.cl (α := Option Addr × Nat) (v := fun p => .slice p.1 6 p.2) (B := fun p => [row p.1 p.2 88 2 6 [.int .i64 1, .int .i64 4, .int .i64 2, .int .i64 0, .int .i64 3, .int .i64 5, .int .i64 4, .int .i64 1, .int .i64 5, .int .i64 6, .int .i64 6, .int .i64 3]]) en_46 rfl (fun w hs => runW (lawRun_c _ _ _ _ wNh.ns wNh.inp wNh.ss _ _ ([⟨0, 0⟩] : List Evt) 0 9 w (hs.ownRo (.there (.there .here))) (hs.ownRo (.there (.there (.there .here)))) (hs.ownRo (.there .here)) (by exact rowle_any hs (.there .here))) kLh) ?_
  rintro ⟨ra67, rc68⟩
  refine Ops.q (q_asg rfl) ?_
  refine Ops.to rfl ?_
  refine Cd.seq ?_
  refine Cd.rowpos .here (by decide) ?_
  rintro rb rfl
  refine Cd.draw rfl (by kernel_rfl) (.cons .here .nil) ?_
  intro F69 St70 hP71 hF72 hR73
  refine Dr.q (i := 0) hP71 rfl (by kernel_rfl) (q_mv rfl) ?_
  refine Dr.q (i := 1) hP71 rfl (by kernel_rfl) (q_len esz_27 rfl) ?_
  refine Dr.q (i := 2) hP71 rfl (by kernel_rfl) (q_cmp rfl rfl (c_nne (by decide))) ?_
  refine Dr.q (i := 3) hP71 rfl (by kernel_rfl) (q_mv rfl) ?_
  refine Dr.q (i := 4) hP71 rfl (by kernel_rfl) (q_mv rfl) ?_
  refine Dr.q (i := 5) hP71 rfl (by kernel_rfl) (q_ix (k := 1) esz_27 rfl rfl (by omega)) ?_
  refine Dr.q (i := 6) hP71 rfl (by kernel_rfl) (q_ldON [.int .i64 2, .int .i64 0] isA_88 sz_88 rfl .here rfl) ?_
  refine Dr.e (i := 7) rfl (by kernel_rfl) ?_
  refine Ops.cp en_39 rfl (fun w hs => at_c 2 0 w) ?_
  refine Dr.back (fun _ hs => hF72 .here hs) ?_
  refine Dr.q (i := 8) hP71 rfl (by kernel_rfl) (q_neF [2, 0] [2, 0] intS_88 rfl rfl rfl rfl rfl (by decide)) ?_
  refine Dr.q (i := 9) hP71 rfl (by kernel_rfl) (q_pickF rfl rfl) ?_
  refine Dr.q (i := 10) hP71 rfl (by kernel_rfl) (q_mv rfl) ?_
  refine Dr.q (i := 11) hP71 rfl (by kernel_rfl) (q_mv rfl) ?_
  refine Dr.q (i := 12) hP71 rfl (by kernel_rfl) (q_ix (k := 3) esz_27 rfl rfl (by omega)) ?_
  refine Dr.q (i := 13) hP71 rfl (by kernel_rfl) (q_ldON [.int .i64 4, .int .i64 1] isA_88 sz_88 rfl .here rfl) ?_
  refine Dr.e (i := 14) rfl (by kernel_rfl) ?_
  refine Ops.cp en_39 rfl (fun w hs => at_c 4 1 w) ?_
  refine Dr.back (fun _ hs => hF72 .here hs) ?_
  refine Dr.q (i := 15) hP71 rfl (by kernel_rfl) (q_neF [4, 1] [4, 1] intS_88 rfl rfl rfl rfl rfl (by decide)) ?_
  refine Dr.q (i := 16) hP71 rfl (by kernel_rfl) (q_pickF rfl rfl) ?_
  refine Dr.q (i := 17) hP71 rfl (by kernel_rfl) (q_mv rfl) ?_
  refine Dr.q (i := 18) hP71 rfl (by kernel_rfl) (q_mv rfl) ?_
  refine Dr.q (i := 19) hP71 rfl (by kernel_rfl) (q_ix (k := 5) esz_27 rfl rfl (by omega)) ?_
  refine Dr.q (i := 20) hP71 rfl (by kernel_rfl) (q_ldON [.int .i64 6, .int .i64 3] isA_88 sz_88 rfl .here rfl) ?_
  refine Dr.e (i := 21) rfl (by kernel_rfl) ?_
  refine Ops.cp en_39 rfl (fun w hs => at_c 6 3 w) ?_
  refine Dr.back (fun _ hs => hF72 .here hs) ?_
  refine Dr.q (i := 22) hP71 rfl (by kernel_rfl) (q_neF [6, 3] [6, 3] intS_88 rfl rfl rfl rfl rfl (by decide)) ?_
  refine Dr.q (i := 23) hP71 rfl (by kernel_rfl) (q_pickF rfl rfl) ?_
  refine Dr.tail 24 (by kernel_rfl) ?_
  refine Ops.sat ?_ (fun _ hs => hR73 .here hs)
  refine Ops.to rfl ?_
  refine Cd.cond_f rfl ?_
  refine Cd.skipTo rfl ?_
  refine Cd.seq ?_
  refine Cd.sat ?_ (fun _ hs => (((((((((hs.pull (.there .here)).pull (.there .here)).drop.pull (.there .here)).drop.pull (.there .here)).drop.pull (.there .here)).drop.pull (.there .here)).drop.pull (.there .here)).drop.pull (.there .here)).drop.pull (.there .here)).drop)
  refine Cd.region ?_
  refine Ops.lit [.int .i64 0] el_26 zsb_3 rfl rfl ⟨by decide, by decide⟩ rfl ?_
  intro b74
  refine Ops.lit [.int .i64 1] el_26 zsb_3 rfl rfl ⟨by decide, by decide⟩ rfl ?_
  intro b75
  refine Ops.q (q_bld [.slice (some ⟨b74, 0, none⟩) 1 1, .slice (some ⟨b75, 0, none⟩) 1 1] pls_61 zc_61 rfl rfl) ?_
  refine Ops.lit [.slice (some ⟨b74, 0, none⟩) 1 1, .slice (some ⟨b75, 0, none⟩) 1 1] el_58 zsb_61 rfl rfl ⟨by decide, by decide⟩ rfl ?_
  intro b76
  refine Ops.cl (α := (Option Addr × Nat) × (Option Addr × Nat)) (v := fun x => .tuple [.agg [.slice x.1.1 wNr.ns.length x.1.2, .int .i64 wNr.inp, .slice x.2.1 wNr.ss.length x.2.2].toArray, .int .i64 0].toArray) (B := fun x => [row x.1.1 x.1.2 116 8 wNr.ns.length (wNr.ns.flatMap ePrm), row x.2.1 x.2.2 126 4 wNr.ss.length (wNr.ss.flatMap eSyn)]) en_28 rfl (fun w hs => retR_ok (memory_c 2 2 _ _ [(((((some ⟨b74, 0, none⟩, 1), [0]), ((some ⟨b75, 0, none⟩, 1), [1]))) : PR)] w ⟨hs.ownRo .here, List.forall_mem_cons.2 ⟨⟨hs.ownRo (.there (.there .here)), hs.ownRo (.there .here)⟩, fun _ h => by cases h⟩⟩ (List.forall_mem_cons.2 ⟨⟨(show (1 : Nat) ≤ 1000000 by decide), (show (1 : Nat) ≤ 1000000 by decide)⟩, fun _ h => by cases h⟩)) kNr) ?_
  rintro ⟨⟨p77, pc78⟩, ⟨q79, qc80⟩⟩
  refine Ops.q (q_mv rfl) ?_
  refine Ops.q (q_ext rfl rfl) ?_
  refine Ops.q (q_ext rfl rfl) ?_
  refine Ops.stB [.slice p77 wNr.ns.length pc78, .int .i64 wNr.inp, .slice q79 wNr.ss.length qc80] [.slice p77 wNr.ns.length pc78, .int .i64 wNr.inp, .slice q79 wNr.ss.length qc80] sz_32 rfl rfl rfl (one rfl) (.there (.there (.there (.there (.there .here))))) rfl rfl ?_
  refine Ops.q (q_asg rfl) ?_
  refine Ops.to rfl ?_
  refine Cd.seq ?_
  refine Cd.seq ?_
  refine Cd.draw rfl (by kernel_rfl) (.cons (.there (.there (.there (.there (.there .here))))) .nil) ?_
  intro F81 St82 hP83 hF84 hR85
  refine Dr.q (i := 0) hP83 rfl (by kernel_rfl) (q_ldBN [.slice p77 wNr.ns.length pc78, .int .i64 wNr.inp, .slice q79 wNr.ss.length qc80] isA_32 sz_32 rfl .here rfl) ?_
  refine Dr.q (i := 1) hP83 rfl (by kernel_rfl) (q_mv rfl) ?_
  refine Dr.e (i := 2) rfl (by kernel_rfl) ?_
  refine Ops.cp en_39 rfl (fun w hs => at_c 4 0 w) ?_
  refine Dr.back (fun _ hs => hF84 .here hs) ?_
  refine Dr.e (i := 3) rfl (by kernel_rfl) ?_
  refine Ops.cp en_39 rfl (fun w hs => at_c 4 2 w) ?_
  refine Dr.back (fun _ hs => hF84 .here hs) ?_
  refine Dr.e (i := 4) rfl (by kernel_rfl) ?_
  refine Ops.lit [.int .i64 4, .int .i64 0, .int .i64 4, .int .i64 2] el_27 zsb_88 rfl rfl ⟨by decide, by decide⟩ rfl ?_
  intro b86
  refine Dr.back (fun _ hs => hF84 (.there .here) hs) ?_
  refine Dr.e (i := 5) rfl (by kernel_rfl) ?_
  refine Ops.cl (α := Option Addr × Nat) (v := fun p => .slice p.1 1 p.2) (B := fun p => [row p.1 p.2 88 2 1 [.int .i64 5, .int .i64 1]]) en_46 rfl (fun w hs => runW (lawRun_c _ _ _ _ wNr.ns wNr.inp wNr.ss _ _ ([⟨4, 0⟩, ⟨4, 2⟩] : List Evt) 0 9 w (hs.ownRo (.there (.there .here))) (hs.ownRo (.there (.there (.there .here)))) (hs.ownRo .here) (by exact rowle_any hs .here)) kLr) ?_
  rintro ⟨ra87, rc88⟩
  refine Dr.back (fun _ hs => hF84 (.there (.there .here)) hs) ?_
  refine Dr.e (i := 6) rfl (by kernel_rfl) ?_
  refine Ops.cp en_39 rfl (fun w hs => at_c 5 1 w) ?_
  refine Dr.back (fun _ hs => hF84 (.there (.there .here)) hs) ?_
  refine Dr.e (i := 7) rfl (by kernel_rfl) ?_
  refine Ops.lit [.int .i64 5, .int .i64 1] el_27 zsb_88 rfl rfl ⟨by decide, by decide⟩ rfl ?_
  intro b89
  refine Dr.back (fun _ hs => hF84 (.there (.there (.there .here))) hs) ?_
  refine Dr.e (i := 8) rfl (by kernel_rfl) ?_
  refine Ops.cp en_20 rfl (fun w hs => dT (events_c _ _ _ _ ([⟨5, 1⟩] : List Evt) ([⟨5, 1⟩] : List Evt) w (hs.ownRo (.there .here)) (hs.ownRo .here) (by decide)) rfl) ?_
  refine Dr.back (fun _ hs => hF84 (.there (.there (.there .here))) hs) ?_
  refine Dr.q (i := 9) hP83 rfl (by kernel_rfl) (q_not rfl) ?_
  refine Dr.tail 10 (by kernel_rfl) ?_
  refine Ops.sat ?_ (fun _ hs => hR85 (.there (.there (.there .here))) hs)
  refine Ops.to rfl ?_
  refine Cd.cond_f rfl ?_
  refine Cd.skipTo rfl ?_
  refine Cd.seq ?_
  refine Cd.sat ?_ (fun _ hs => (((((((((hs.pull .here).pull (.there .here)).drop.pull (.there .here)).drop.pull (.there .here)).drop.pull (.there .here)).drop.pull (.there .here)).drop.pull (.there .here)).drop.pull (.there .here)).drop.pull (.there .here)).drop)
  refine Cd.region ?_
  refine Ops.q (q_bld [.int .i64 0, .int .i64 5, .int .i64 1] pls_70 zc_70 rfl rfl) ?_
  refine Ops.lit [.int .i64 0, .int .i64 5, .int .i64 1] el_67 zsb_70 rfl rfl ⟨by decide, by decide⟩ rfl ?_
  intro b90
  refine Ops.cl (α := (Option Addr × Nat) × (Option Addr × Nat)) (v := fun x => .tuple [.agg [.slice x.1.1 wNc.ns.length x.1.2, .int .i64 wNc.inp, .slice x.2.1 wNc.ss.length x.2.2].toArray, .int .i64 0].toArray) (B := fun x => [row x.1.1 x.1.2 116 8 wNc.ns.length (wNc.ns.flatMap ePrm), row x.2.1 x.2.2 126 4 wNc.ss.length (wNc.ss.flatMap eSyn)]) en_30 rfl (fun w hs => retR_ok (count_c 1 _ _ [⟨0, 5, 1⟩] 2 w (hs.ownRo .here)) kNc) ?_
  rintro ⟨⟨p91, pc92⟩, ⟨q93, qc94⟩⟩
  refine Ops.q (q_mv rfl) ?_
  refine Ops.q (q_ext rfl rfl) ?_
  refine Ops.q (q_ext rfl rfl) ?_
  refine Ops.stB [.slice p91 wNc.ns.length pc92, .int .i64 wNc.inp, .slice q93 wNc.ss.length qc94] [.slice p91 wNc.ns.length pc92, .int .i64 wNc.inp, .slice q93 wNc.ss.length qc94] sz_32 rfl rfl rfl (one rfl) (.there (.there (.there .here))) rfl rfl ?_
  refine Ops.q (q_asg rfl) ?_
  refine Ops.to rfl ?_
  refine Cd.seq ?_
  refine Cd.seq ?_
  refine Cd.draw rfl (by kernel_rfl) (.cons (.there (.there (.there .here))) .nil) ?_
  intro F95 St96 hP97 hF98 hR99
  refine Dr.q (i := 0) hP97 rfl (by kernel_rfl) (q_ldBN [.slice p91 wNc.ns.length pc92, .int .i64 wNc.inp, .slice q93 wNc.ss.length qc94] isA_32 sz_32 rfl .here rfl) ?_
  refine Dr.q (i := 1) hP97 rfl (by kernel_rfl) (q_mv rfl) ?_
  refine Dr.e (i := 2) rfl (by kernel_rfl) ?_
  refine Ops.cp en_39 rfl (fun w hs => at_c 0 0 w) ?_
  refine Dr.back (fun _ hs => hF98 .here hs) ?_
  refine Dr.e (i := 3) rfl (by kernel_rfl) ?_
  refine Ops.lit [.int .i64 0, .int .i64 0] el_27 zsb_88 rfl rfl ⟨by decide, by decide⟩ rfl ?_
  intro b100
  refine Dr.back (fun _ hs => hF98 (.there .here) hs) ?_
  refine Dr.tail 4 (by kernel_rfl) ?_
  refine Ops.sat ?_ (fun _ hs => hR99 (.there .here) hs)
  refine Ops.cl (α := Option Addr × Nat) (v := fun p => .slice p.1 2 p.2) (B := fun p => [row p.1 p.2 88 2 2 [.int .i64 1, .int .i64 0, .int .i64 2, .int .i64 0]]) en_46 rfl (fun w hs => runW (lawRun_c _ _ _ _ wNc.ns wNc.inp wNc.ss _ _ ([⟨0, 0⟩] : List Evt) 0 9 w (hs.ownRo (.there (.there .here))) (hs.ownRo (.there (.there (.there .here)))) (hs.ownRo (.there .here)) (by exact rowle_any hs (.there .here))) kLc) ?_
  rintro ⟨ra101, rc102⟩
  refine Ops.cp en_39 rfl (fun w hs => at_c 1 0 w) ?_
  refine Ops.cp en_39 rfl (fun w hs => at_c 2 0 w) ?_
  refine Ops.lit [.int .i64 1, .int .i64 0, .int .i64 2, .int .i64 0] el_27 zsb_88 rfl rfl ⟨by decide, by decide⟩ rfl ?_
  intro b103
  refine Ops.cp en_20 rfl (fun w hs => dT (events_c _ _ _ _ ([⟨1, 0⟩, ⟨2, 0⟩] : List Evt) ([⟨1, 0⟩, ⟨2, 0⟩] : List Evt) w (hs.ownRo (.there .here)) (hs.ownRo .here) (by decide)) rfl) ?_
  refine Ops.q (q_not rfl) ?_
  refine Ops.to rfl ?_
  refine Cd.cond_f rfl ?_
  refine Cd.skipTo rfl ?_
  refine Cd.seq ?_
  refine Cd.sat ?_ (fun _ hs => (((((((hs.pull (.there (.there .here))).pull (.there .here)).drop.pull (.there .here)).drop.pull (.there .here)).drop.pull (.there .here)).drop.pull (.there .here)).drop.pull (.there .here)).drop)
  refine Cd.region ?_
  refine Ops.q (q_bld [.int .i64 0, .int .i64 0] pls_76 zc_76 rfl rfl) ?_
  refine Ops.q (q_bld [.int .i64 1, .int .i64 3] pls_76 zc_76 rfl rfl) ?_
  refine Ops.lit [.int .i64 0, .int .i64 0, .int .i64 1, .int .i64 3] el_73 zsb_76 rfl rfl ⟨by decide, by decide⟩ rfl ?_
  intro b104
  refine Ops.cl (α := (Option Addr × Nat) × (Option Addr × Nat)) (v := fun x => .tuple [.agg [.slice x.1.1 wNq.ns.length x.1.2, .int .i64 wNq.inp, .slice x.2.1 wNq.ss.length x.2.2].toArray, .int .i64 0].toArray) (B := fun x => [row x.1.1 x.1.2 116 8 wNq.ns.length (wNq.ns.flatMap ePrm), row x.2.1 x.2.2 126 4 wNq.ss.length (wNq.ss.flatMap eSyn)]) en_32 rfl (fun w hs => retR_ok (pattern_c 2 _ _ [⟨0, 0⟩, ⟨1, 3⟩] 0 w (hs.ownRo .here) (by decide)) kNq) ?_
  rintro ⟨⟨p105, pc106⟩, ⟨q107, qc108⟩⟩
  refine Ops.q (q_mv rfl) ?_
  refine Ops.q (q_ext rfl rfl) ?_
  refine Ops.q (q_ext rfl rfl) ?_
  refine Ops.stB [.slice p105 wNq.ns.length pc106, .int .i64 wNq.inp, .slice q107 wNq.ss.length qc108] [.slice p105 wNq.ns.length pc106, .int .i64 wNq.inp, .slice q107 wNq.ss.length qc108] sz_32 rfl rfl rfl (one rfl) (.there (.there (.there .here))) rfl rfl ?_
  refine Ops.q (q_asg rfl) ?_
  refine Ops.to rfl ?_
  refine Cd.seq ?_
  refine Cd.draw rfl (by kernel_rfl) (.cons (.there (.there (.there .here))) .nil) ?_
  intro F109 St110 hP111 hF112 hR113
  refine Dr.q (i := 0) hP111 rfl (by kernel_rfl) (q_ldBN [.slice p105 wNq.ns.length pc106, .int .i64 wNq.inp, .slice q107 wNq.ss.length qc108] isA_32 sz_32 rfl .here rfl) ?_
  refine Dr.q (i := 1) hP111 rfl (by kernel_rfl) (q_mv rfl) ?_
  refine Dr.e (i := 2) rfl (by kernel_rfl) ?_
  refine Ops.cp en_39 rfl (fun w hs => at_c 1 0 w) ?_
  refine Dr.back (fun _ hs => hF112 .here hs) ?_
  refine Dr.e (i := 3) rfl (by kernel_rfl) ?_
  refine Ops.cp en_39 rfl (fun w hs => at_c 4 1 w) ?_
  refine Dr.back (fun _ hs => hF112 .here hs) ?_
  refine Dr.e (i := 4) rfl (by kernel_rfl) ?_
  refine Ops.lit [.int .i64 1, .int .i64 0, .int .i64 4, .int .i64 1] el_27 zsb_88 rfl rfl ⟨by decide, by decide⟩ rfl ?_
  intro b114
  refine Dr.back (fun _ hs => hF112 (.there .here) hs) ?_
  refine Dr.e (i := 5) rfl (by kernel_rfl) ?_
  refine Ops.cl (α := Option Addr × Nat) (v := fun p => .slice p.1 1 p.2) (B := fun p => [row p.1 p.2 88 2 1 [.int .i64 17, .int .i64 0]]) en_46 rfl (fun w hs => runW (lawRun_c _ _ _ _ wNq.ns wNq.inp wNq.ss _ _ ([⟨1, 0⟩, ⟨4, 1⟩] : List Evt) 0 20 w (hs.ownRo (.there (.there .here))) (hs.ownRo (.there (.there (.there .here)))) (hs.ownRo .here) (by exact rowle_any hs .here)) kLq) ?_
  rintro ⟨ra115, rc116⟩
  refine Dr.back (fun _ hs => hF112 (.there (.there .here)) hs) ?_
  refine Dr.e (i := 6) rfl (by kernel_rfl) ?_
  refine Ops.cp en_39 rfl (fun w hs => at_c 17 0 w) ?_
  refine Dr.back (fun _ hs => hF112 (.there (.there .here)) hs) ?_
  refine Dr.e (i := 7) rfl (by kernel_rfl) ?_
  refine Ops.lit [.int .i64 17, .int .i64 0] el_27 zsb_88 rfl rfl ⟨by decide, by decide⟩ rfl ?_
  intro b117
  refine Dr.back (fun _ hs => hF112 (.there (.there (.there .here))) hs) ?_
  refine Dr.e (i := 8) rfl (by kernel_rfl) ?_
  refine Ops.cp en_20 rfl (fun w hs => dT (events_c _ _ _ _ ([⟨17, 0⟩] : List Evt) ([⟨17, 0⟩] : List Evt) w (hs.ownRo (.there .here)) (hs.ownRo .here) (by decide)) rfl) ?_
  refine Dr.back (fun _ hs => hF112 (.there (.there (.there .here))) hs) ?_
  refine Dr.tail 9 (by kernel_rfl) ?_
  refine Ops.sat ?_ (fun _ hs => hR113 (.there (.there (.there .here))) hs)
  refine Ops.q (q_asg rfl) ?_
  refine Ops.to rfl ?_
  refine Cd.rt (fn := Try.f13) [.bool true] (by with_reducible repeat (first | exact rq_here | apply rq_then | apply rq_block)) rfl ⟨rfl, trivial⟩ ?_
  intro w' hs'
  exact ⟨rfl, hs'.none⟩
end Go.Proofs.Ytilcdghliigngaa
namespace Go.Proofs.Ytilcdghliigngaa
open Go.RowKit Go.Proofs.YtilcdghliigngaaGl Go.Proofs.YtilcdghliigngaaPm
set_option linter.unusedVariables false
set_option linter.unusedSimpArgs false
def errN {α : Type} (r : Except Int α) : Int := match r with | .ok _ => 0 | .error c => c
theorem retR_any {k : FuncId} {vs : Array Value} {r : Except Int NetP} {w : World} (h : Calls Try.prog k vs w (RetR r w)) :
    Calls Try.prog k vs w fun e w' => ∃ x : (Option Addr × Nat) × (Option Addr × Nat), e = .returned (.tuple #[.agg #[.slice x.1.1 (exN r).ns.length x.1.2, .int .i64 (exN r).inp, .slice x.2.1 (exN r).ss.length x.2.2], .int .i64 (errN r)]) ∧ Sat w w' [row x.1.1 x.1.2 116 8 (exN r).ns.length ((exN r).ns.flatMap ePrm), row x.2.1 x.2.2 126 4 (exN r).ss.length ((exN r).ss.flatMap eSyn)] := by
  cases r with
  | ok N => exact h.mono fun e w' h => by obtain ⟨p, q, h1, h2⟩ := h; exact ⟨(p, q), h1, h2⟩
  | error c => exact h.mono fun e w' h => ⟨((none, 0), (none, 0)), h.1, (h.2.nilRow 126 4).nilRow 116 8⟩
theorem rowmax {w0 w : World} {A R : List Atom} {a : Option Addr} {cap sz m : Nat} {E : TypeId} {cs : List Value} (h : Sat w0 w A) (hp : Pull A (row a cap E sz m cs) R) : m ≤ 9223372036854775807 := by
  obtain ⟨hlen, hown⟩ := h.own hp
  rcases hown with ⟨h0, h00⟩ | ⟨b', cap', cur, hv0, _, hh, h2, h3, h4, h5⟩
  · omega
  · cases hv0; simp only [maxLen] at h3; omega
theorem filters_c (ip : Int) (ta : Option Addr) (tc : Nat) (ts : List Tap) (th : Int) (ma : Option Addr) (mc : Nat) (ms : List Mrk) (miss : Int) (w : World) (hT : RoL w ta eTap ts) (hM : RoL w ma eMark ms) : Calls Try.prog 5 [.int .i64 ip, .slice ta ts.length tc, .int .i64 th, .slice ma ms.length mc, .int .i64 miss].toArray w fun e w' => e = .returned (.bool true) ∧ Sat w w' [] := by
  refine fstart Try.func5 rfl rfl (Sat.nil w) ?_
  refine Cd.seq ?_
  refine Cd.region ?_
  refine Ops.q (q_asg rfl) ?_
  refine Ops.to rfl ?_
  refine Cd.seq ?_
  refine Cd.seq ?_
  refine Cd.region ?_
  refine Ops.q (q_mv rfl) ?_
  refine Ops.q (q_len esz_65 rfl) ?_
  by_cases h1 : 60 < (ts.length : Int)
  · refine Ops.q (q_cmp rfl rfl (c_gt h1)) ?_
    refine Ops.q (q_mv rfl) ?_
    refine Ops.q (q_mv rfl) ?_
    refine Ops.q (q_len esz_65 rfl) ?_
    by_cases h2 : (ts.length : Int) ≤ 512
    · refine Ops.q (q_cmp rfl rfl (c_le h2)) ?_
      refine Ops.q (q_pickT rfl rfl) ?_
      refine Ops.q (q_mv rfl) ?_
      refine Ops.sk ?_
      refine Ops.sk ?_
      refine Ops.sk ?_
      refine Ops.q (q_pickT rfl rfl) ?_
      refine Ops.q (q_mv rfl) ?_
      refine Ops.sk ?_
      refine Ops.sk ?_
      refine Ops.sk ?_
      refine Ops.q (q_pickT rfl rfl) ?_
      refine Ops.to rfl ?_
      refine Cd.cond_t rfl ?_
      refine Cd.seq ?_
      refine Cd.region ?_
      refine Ops.cp en_13 rfl (fun w hs => works_c w) ?_
      refine Ops.q (q_asg rfl) ?_
      refine Ops.to rfl ?_
      refine Cd.rt (fn := Try.f5) [.bool true] (by with_reducible repeat (first | exact rq_here | apply rq_then | apply rq_block)) rfl ⟨rfl, trivial⟩ ?_
      intro w' hs'
      exact ⟨rfl, hs'.none⟩
    · refine Ops.q (q_cmp rfl rfl (c_nle (by omega))) ?_
      refine Ops.q (q_pickT rfl rfl) ?_
      refine Ops.q (q_mv rfl) ?_
      refine Ops.q (q_mv rfl) ?_
      refine Ops.q (q_len esz_65 rfl) ?_
      by_cases h3 : 520 < (ts.length : Int)
      · refine Ops.q (q_cmp rfl rfl (c_gt h3)) ?_
        refine Ops.q (q_pickF rfl rfl) ?_
        refine Ops.q (q_mv rfl) ?_
        refine Ops.sk ?_
        refine Ops.sk ?_
        refine Ops.sk ?_
        refine Ops.q (q_pickT rfl rfl) ?_
        refine Ops.to rfl ?_
        refine Cd.cond_t rfl ?_
        refine Cd.seq ?_
        refine Cd.region ?_
        refine Ops.cp en_13 rfl (fun w hs => works_c w) ?_
        refine Ops.q (q_asg rfl) ?_
        refine Ops.to rfl ?_
        refine Cd.rt (fn := Try.f5) [.bool true] (by with_reducible repeat (first | exact rq_here | apply rq_then | apply rq_block)) rfl ⟨rfl, trivial⟩ ?_
        intro w' hs'
        exact ⟨rfl, hs'.none⟩
      · refine Ops.q (q_cmp rfl rfl (c_ngt (by omega))) ?_
        refine Ops.q (q_pickF rfl rfl) ?_
        refine Ops.q (q_mv rfl) ?_
        refine Ops.q (q_mv rfl) ?_
        refine Ops.q (q_len esz_66 rfl) ?_
        by_cases h4 : 70 < (ms.length : Int)
        · refine Ops.q (q_cmp rfl rfl (c_gt h4)) ?_
          refine Ops.q (q_pickF rfl rfl) ?_
          refine Ops.to rfl ?_
          refine Cd.cond_t rfl ?_
          refine Cd.seq ?_
          refine Cd.region ?_
          refine Ops.cp en_13 rfl (fun w hs => works_c w) ?_
          refine Ops.q (q_asg rfl) ?_
          refine Ops.to rfl ?_
          refine Cd.rt (fn := Try.f5) [.bool true] (by with_reducible repeat (first | exact rq_here | apply rq_then | apply rq_block)) rfl ⟨rfl, trivial⟩ ?_
          intro w' hs'
          exact ⟨rfl, hs'.none⟩
        · refine Ops.q (q_cmp rfl rfl (c_ngt (by omega))) ?_
          refine Ops.q (q_pickF rfl rfl) ?_
          refine Ops.to rfl ?_
          refine Cd.cond_f rfl ?_
          refine Cd.skipTo rfl ?_
          refine Cd.seq ?_
          refine Cd.region ?_
          refine Ops.q (q_asg rfl) ?_
          refine Ops.to rfl ?_
          refine Cd.seq ?_
          refine Cd.seq ?_
          refine Cd.region ?_
          refine Ops.q (q_asg rfl) ?_
          refine Ops.to rfl ?_
          refine Cd.block ?_
          refine Cd.lp (σ := Nat × Option Addr × Nat) (fun s => s.1 ≤ ts.length) (fun s => [(0, .int .i64 ip), (1, .slice ta ts.length tc), (2, .int .i64 th), (3, .slice ma ms.length mc), (4, .int .i64 miss), (11, .slice s.2.1 s.1 s.2.2), (12, .int .i64 (s.1 : Int))]) (fun s => [row s.2.1 s.2.2 70 3 s.1 ((ts.take s.1).flatMap eTap)]) (fun s => ts.length - s.1) (0, none, 0) (Nat.zero_le _) ⟨rfl, rfl, rfl, rfl, rfl, rfl, rfl, trivial⟩ (fun _ hs => by have h1 := (hs).nilRow 70 3; exact h1) ?_
          rintro ⟨k, pa, pc⟩ hI
          dsimp only at hI
          change Cd _ _ _ _ _ _ _ [(0, .int .i64 ip), (1, .slice ta ts.length tc), (2, .int .i64 th), (3, .slice ma ms.length mc), (4, .int .i64 miss), (11, .slice pa k pc), (12, .int .i64 (k : Int))] ([row pa pc 70 3 k ((ts.take k).flatMap eTap)])
          refine Cd.seq ?_
          refine Cd.seq ?_
          refine Cd.region ?_
          refine Ops.q (q_mv rfl) ?_
          refine Ops.q (q_mv rfl) ?_
          refine Ops.q (q_len esz_65 rfl) ?_
          by_cases hk : (k : Int) < (ts.length : Int)
          · refine Ops.q (q_cmp rfl rfl (c_lt hk)) ?_
            obtain ⟨x5, hx6⟩ : ∃ x, ts[k]? = some x := ⟨_, List.getElem?_eq_getElem (by omega)⟩
            obtain ⟨ab7, ao8, rfl⟩ := RoL.pos hT eTap_len hx6
            refine Ops.to rfl ?_
            refine Cd.cond_t rfl ?_
            refine Cd.skipTo rfl ?_
            refine Cd.seq ?_
            refine Cd.block ?_
            refine Cd.draw rfl (by kernel_rfl) .nil ?_
            intro F9 St10 hP11 hF12 hR13
            refine Dr.q (i := 0) hP11 rfl (by kernel_rfl) (q_mv rfl) ?_
            refine Dr.q (i := 1) hP11 rfl (by kernel_rfl) (q_mv rfl) ?_
            refine Dr.q (i := 2) hP11 rfl (by kernel_rfl) (q_mv rfl) ?_
            refine Dr.q (i := 3) hP11 rfl (by kernel_rfl) (q_ix (k := k) esz_65 rfl rfl (by omega)) ?_
            refine Dr.q (i := 4) hP11 rfl (by kernel_rfl) (q_fa fo_69_0 rfl) ?_
            refine Dr.q (i := 5) hP11 rfl (by kernel_rfl) (q_ldR isA_3 rfl (hT.at eTap_len hx6 rfl)) ?_
            refine Dr.q (i := 6) hP11 rfl (by kernel_rfl) (q_mv rfl) ?_
            refine Dr.q (i := 7) hP11 rfl (by kernel_rfl) (q_mv rfl) ?_
            refine Dr.q (i := 8) hP11 rfl (by kernel_rfl) (q_ix (k := k) esz_65 rfl rfl (by omega)) ?_
            refine Dr.q (i := 9) hP11 rfl (by kernel_rfl) (q_fa fo_69_1 rfl) ?_
            refine Dr.q (i := 10) hP11 rfl (by kernel_rfl) (q_ldR isA_3 rfl (hT.at eTap_len hx6 rfl)) ?_
            refine Dr.q (i := 11) hP11 rfl (by kernel_rfl) (q_mv rfl) ?_
            refine Dr.q (i := 12) hP11 rfl (by kernel_rfl) (q_mv rfl) ?_
            refine Dr.q (i := 13) hP11 rfl (by kernel_rfl) (q_ix (k := k) esz_65 rfl rfl (by omega)) ?_
            refine Dr.q (i := 14) hP11 rfl (by kernel_rfl) (q_fa fo_69_2 rfl) ?_
            refine Dr.q (i := 15) hP11 rfl (by kernel_rfl) (q_ldR isA_3 rfl (hT.at eTap_len hx6 rfl)) ?_
            refine Dr.q (i := 16) hP11 rfl (by kernel_rfl) (q_bld [.int .i64 x5.inp, .int .i64 x5.wt, .int .i64 x5.dl] pls_70 zc_70 rfl rfl) ?_
            refine Dr.e (i := 17) rfl (by kernel_rfl) ?_
            refine Ops.lit [.int .i64 x5.inp, .int .i64 x5.wt, .int .i64 x5.dl] el_67 zsb_70 rfl rfl ⟨by decide, by decide⟩ rfl ?_
            intro b14
            refine Dr.back (fun _ hs => hF12 (.there .here) hs) ?_
            refine Dr.e (i := 18) rfl (by kernel_rfl) ?_
            refine Ops.app (news := [.int .i64 x5.inp, .int .i64 x5.wt, .int .i64 x5.dl]) el_67 zsb_70 (by decide) rfl rfl (fun _ hs => hs.ownRo .here) (fun _ hs => (hs.pull .here).drop) (fun _ _ => (.there .here)) rfl (one rfl) (by omega) (by omega) ?_
            intro a15 c16
            refine Dr.back (fun _ hs => hF12 .here hs) ?_
            refine Dr.tail 19 (by kernel_rfl) ?_
            refine Ops.sat ?_ (fun _ hs => hR13 .here hs)
            refine Ops.q (q_asg rfl) ?_
            refine Ops.to rfl ?_
            refine Cd.region ?_
            refine Ops.q (q_mv rfl) ?_
            refine Ops.q (q_ar rfl rfl (a_inc (by omega))) ?_
            refine Ops.q (q_asg rfl) ?_
            refine Ops.rnd ((k + 1, a15, c16)) rfl (by dsimp only; exact (by omega)) (by dsimp only; omega) ⟨rfl, rfl, rfl, rfl, rfl, rfl, rfl, trivial⟩ (fun _ hs => by have h1 := (hs.pull .here); (try dsimp only); rw [List.take_add_one, hx6, fm_app]; exact h1) 
          · refine Ops.q (q_cmp rfl rfl (c_nlt (by omega))) ?_
            have hk : k = ts.length := by omega
            rw [hk, List.take_length]
            refine Ops.to rfl ?_
            refine Cd.cond_f rfl ?_
            refine Cd.exitTo rfl ?_
            refine Cd.seq ?_
            refine Cd.region ?_
            refine Ops.q (q_mv rfl) ?_
            refine Ops.q (q_mv rfl) ?_
            refine Ops.q (q_mv rfl) ?_
            refine Ops.cl (α := (Option Addr × Nat) × (Option Addr × Nat)) (v := fun x => .tuple #[.agg #[.slice x.1.1 (exN (countP ip ts th)).ns.length x.1.2, .int .i64 (exN (countP ip ts th)).inp, .slice x.2.1 (exN (countP ip ts th)).ss.length x.2.2], .int .i64 (errN (countP ip ts th))]) (B := fun x => [row x.1.1 x.1.2 116 8 (exN (countP ip ts th)).ns.length ((exN (countP ip ts th)).ns.flatMap ePrm), row x.2.1 x.2.2 126 4 (exN (countP ip ts th)).ss.length ((exN (countP ip ts th)).ss.flatMap eSyn)]) en_30 rfl (fun w hs => retR_any (count_c ip _ _ ts th w (hs.ownRo .here))) ?_
            rintro ⟨⟨p17, pc18⟩, ⟨q19, qc20⟩⟩
            refine Ops.q (q_mv rfl) ?_
            refine Ops.q (q_ext rfl rfl) ?_
            refine Ops.q (q_ext rfl rfl) ?_
            refine Ops.alc [.slice none 0 0, .int .i64 0, .slice none 0 0] zc_32 ?_
            intro b21
            refine Ops.stB [.slice p17 ((exN (countP ip ts th)).ns.length) pc18, .int .i64 ((exN (countP ip ts th)).inp), .slice q19 ((exN (countP ip ts th)).ss.length) qc20] [.slice p17 ((exN (countP ip ts th)).ns.length) pc18, .int .i64 ((exN (countP ip ts th)).inp), .slice q19 ((exN (countP ip ts th)).ss.length) qc20] sz_32 rfl rfl rfl (one rfl) .here rfl rfl ?_
            refine Ops.q (q_asg rfl) ?_
            refine Ops.to rfl ?_
            refine Cd.seq ?_
            refine Cd.region ?_
            refine Ops.q (q_mv rfl) ?_
            refine Ops.q (q_mv rfl) ?_
            refine Ops.q (q_mv rfl) ?_
            refine Ops.cl (α := (Option Addr × Nat) × (Option Addr × Nat)) (v := fun x => .tuple #[.agg #[.slice x.1.1 (exN (countP ip ts th)).ns.length x.1.2, .int .i64 (exN (countP ip ts th)).inp, .slice x.2.1 (exN (countP ip ts th)).ss.length x.2.2], .int .i64 (errN (countP ip ts th))]) (B := fun x => [row x.1.1 x.1.2 116 8 (exN (countP ip ts th)).ns.length ((exN (countP ip ts th)).ns.flatMap ePrm), row x.2.1 x.2.2 126 4 (exN (countP ip ts th)).ss.length ((exN (countP ip ts th)).ss.flatMap eSyn)]) en_31 rfl (fun w hs => retR_any (rcount_c ip _ _ ts th w (hT.later hs.below))) ?_
            rintro ⟨⟨p22, pc23⟩, ⟨q24, qc25⟩⟩
            refine Ops.q (q_mv rfl) ?_
            refine Ops.q (q_ext rfl rfl) ?_
            refine Ops.q (q_ext rfl rfl) ?_
            refine Ops.alc [.slice none 0 0, .int .i64 0, .slice none 0 0] zc_32 ?_
            intro b26
            refine Ops.stB [.slice p22 ((exN (countP ip ts th)).ns.length) pc23, .int .i64 ((exN (countP ip ts th)).inp), .slice q24 ((exN (countP ip ts th)).ss.length) qc25] [.slice p22 ((exN (countP ip ts th)).ns.length) pc23, .int .i64 ((exN (countP ip ts th)).inp), .slice q24 ((exN (countP ip ts th)).ss.length) qc25] sz_32 rfl rfl rfl (one rfl) .here rfl rfl ?_
            refine Ops.q (q_asg rfl) ?_
            refine Ops.to rfl ?_
            refine Cd.seq ?_
            refine Cd.seq ?_
            refine Cd.region ?_
            refine Ops.q (q_ldBN [.slice p17 ((exN (countP ip ts th)).ns.length) pc18, .int .i64 ((exN (countP ip ts th)).inp), .slice q19 ((exN (countP ip ts th)).ss.length) qc20] isA_32 sz_32 rfl (.there (.there (.there .here))) rfl) ?_
            refine Ops.q (q_ldBN [.slice p22 ((exN (countP ip ts th)).ns.length) pc23, .int .i64 ((exN (countP ip ts th)).inp), .slice q24 ((exN (countP ip ts th)).ss.length) qc25] isA_32 sz_32 rfl .here rfl) ?_
            refine Ops.cp en_17 rfl (fun w hs => dT (nets_c _ _ _ _ _ _ _ _ (exN (countP ip ts th)).ns (exN (countP ip ts th)).ns ((exN (countP ip ts th)).inp) ((exN (countP ip ts th)).inp) (exN (countP ip ts th)).ss (exN (countP ip ts th)).ss w (hs.ownRo (.there (.there (.there (.there .here))))) (hs.ownRo (.there .here)) (hs.ownRo (.there (.there (.there (.there (.there .here)))))) (hs.ownRo (.there (.there .here))) (rowmax hs (.there (.there (.there (.there .here))))) (rowmax hs (.there (.there (.there (.there (.there .here))))))) ⟨rfl, rfl, rfl⟩) ?_
            refine Ops.q (q_not rfl) ?_
            refine Ops.q (q_mv rfl) ?_
            refine Ops.q (q_mv rfl) ?_
            refine Ops.q (q_mv rfl) ?_
            refine Ops.q (q_cmp rfl rfl (c_nne rfl)) ?_
            refine Ops.q (q_pickF rfl rfl) ?_
            refine Ops.to rfl ?_
            refine Cd.cond_f rfl ?_
            refine Cd.skipTo rfl ?_
            refine Cd.seq ?_
            refine Cd.region ?_
            refine Ops.q (q_asg rfl) ?_
            refine Ops.to rfl ?_
            refine Cd.seq ?_
            refine Cd.seq ?_
            refine Cd.region ?_
            refine Ops.q (q_asg rfl) ?_
            refine Ops.to rfl ?_
            refine Cd.block ?_
            refine Cd.lp (σ := Nat × Option Addr × Nat) (fun s => s.1 ≤ ms.length) (fun s => [(0, .int .i64 ip), (1, .slice ta ts.length tc), (2, .int .i64 th), (3, .slice ma ms.length mc), (4, .int .i64 miss), (13, .pointer (some ⟨b21, 0, none⟩)), (15, .pointer (some ⟨b26, 0, none⟩)), (17, .slice s.2.1 s.1 s.2.2), (18, .int .i64 (s.1 : Int))]) (fun s => [row s.2.1 s.2.2 76 2 s.1 ((ms.take s.1).flatMap eMark), blk b26 32 [.slice p22 ((exN (countP ip ts th)).ns.length) pc23, .int .i64 ((exN (countP ip ts th)).inp), .slice q24 ((exN (countP ip ts th)).ss.length) qc25], blk b21 32 [.slice p17 ((exN (countP ip ts th)).ns.length) pc18, .int .i64 ((exN (countP ip ts th)).inp), .slice q19 ((exN (countP ip ts th)).ss.length) qc20]]) (fun s => ms.length - s.1) (0, none, 0) (Nat.zero_le _) ⟨rfl, rfl, rfl, rfl, rfl, rfl, rfl, rfl, rfl, trivial⟩ (fun _ hs => by have h1 := ((((((((hs.pull (.there (.there (.there .here)))).pull (.there .here)).pull (.there (.there .here))).drop.pull (.there (.there .here))).drop.pull (.there (.there .here))).drop.pull (.there (.there .here))).drop.pull (.there (.there .here))).drop).nilRow 76 2; exact h1) ?_
            rintro ⟨k, pa, pc⟩ hI
            dsimp only at hI
            change Cd _ _ _ _ _ _ _ [(0, .int .i64 ip), (1, .slice ta ts.length tc), (2, .int .i64 th), (3, .slice ma ms.length mc), (4, .int .i64 miss), (13, .pointer (some ⟨b21, 0, none⟩)), (15, .pointer (some ⟨b26, 0, none⟩)), (17, .slice pa k pc), (18, .int .i64 (k : Int))] ([row pa pc 76 2 k ((ms.take k).flatMap eMark), blk b26 32 [.slice p22 ((exN (countP ip ts th)).ns.length) pc23, .int .i64 ((exN (countP ip ts th)).inp), .slice q24 ((exN (countP ip ts th)).ss.length) qc25], blk b21 32 [.slice p17 ((exN (countP ip ts th)).ns.length) pc18, .int .i64 ((exN (countP ip ts th)).inp), .slice q19 ((exN (countP ip ts th)).ss.length) qc20]])
            refine Cd.seq ?_
            refine Cd.seq ?_
            refine Cd.region ?_
            refine Ops.q (q_mv rfl) ?_
            refine Ops.q (q_mv rfl) ?_
            refine Ops.q (q_len esz_66 rfl) ?_
            by_cases hk : (k : Int) < (ms.length : Int)
            · refine Ops.q (q_cmp rfl rfl (c_lt hk)) ?_
              obtain ⟨x27, hx28⟩ : ∃ x, ms[k]? = some x := ⟨_, List.getElem?_eq_getElem (by omega)⟩
              obtain ⟨ab29, ao30, rfl⟩ := RoL.pos hM eMark_len hx28
              refine Ops.to rfl ?_
              refine Cd.cond_t rfl ?_
              refine Cd.skipTo rfl ?_
              refine Cd.seq ?_
              refine Cd.block ?_
              refine Cd.draw rfl (by kernel_rfl) .nil ?_
              intro F31 St32 hP33 hF34 hR35
              refine Dr.q (i := 0) hP33 rfl (by kernel_rfl) (q_mv rfl) ?_
              refine Dr.q (i := 1) hP33 rfl (by kernel_rfl) (q_mv rfl) ?_
              refine Dr.q (i := 2) hP33 rfl (by kernel_rfl) (q_mv rfl) ?_
              refine Dr.q (i := 3) hP33 rfl (by kernel_rfl) (q_ix (k := k) esz_66 rfl rfl (by omega)) ?_
              refine Dr.q (i := 4) hP33 rfl (by kernel_rfl) (q_fa fo_75_0 rfl) ?_
              refine Dr.q (i := 5) hP33 rfl (by kernel_rfl) (q_ldR isA_3 rfl (hM.at eMark_len hx28 rfl)) ?_
              refine Dr.q (i := 6) hP33 rfl (by kernel_rfl) (q_mv rfl) ?_
              refine Dr.q (i := 7) hP33 rfl (by kernel_rfl) (q_mv rfl) ?_
              refine Dr.q (i := 8) hP33 rfl (by kernel_rfl) (q_ix (k := k) esz_66 rfl rfl (by omega)) ?_
              refine Dr.q (i := 9) hP33 rfl (by kernel_rfl) (q_fa fo_75_1 rfl) ?_
              refine Dr.q (i := 10) hP33 rfl (by kernel_rfl) (q_ldR isA_3 rfl (hM.at eMark_len hx28 rfl)) ?_
              refine Dr.q (i := 11) hP33 rfl (by kernel_rfl) (q_bld [.int .i64 x27.inp, .int .i64 x27.off] pls_76 zc_76 rfl rfl) ?_
              refine Dr.e (i := 12) rfl (by kernel_rfl) ?_
              refine Ops.lit [.int .i64 x27.inp, .int .i64 x27.off] el_73 zsb_76 rfl rfl ⟨by decide, by decide⟩ rfl ?_
              intro b36
              refine Dr.back (fun _ hs => hF34 (.there .here) hs) ?_
              refine Dr.e (i := 13) rfl (by kernel_rfl) ?_
              refine Ops.app (news := [.int .i64 x27.inp, .int .i64 x27.off]) el_73 zsb_76 (by decide) rfl rfl (fun _ hs => hs.ownRo .here) (fun _ hs => (hs.pull .here).drop) (fun _ _ => (.there .here)) rfl (one rfl) (by omega) (by omega) ?_
              intro a37 c38
              refine Dr.back (fun _ hs => hF34 .here hs) ?_
              refine Dr.tail 14 (by kernel_rfl) ?_
              refine Ops.sat ?_ (fun _ hs => hR35 .here hs)
              refine Ops.q (q_asg rfl) ?_
              refine Ops.to rfl ?_
              refine Cd.region ?_
              refine Ops.q (q_mv rfl) ?_
              refine Ops.q (q_ar rfl rfl (a_inc (by omega))) ?_
              refine Ops.q (q_asg rfl) ?_
              refine Ops.rnd ((k + 1, a37, c38)) rfl (by dsimp only; exact (by omega)) (by dsimp only; omega) ⟨rfl, rfl, rfl, rfl, rfl, rfl, rfl, rfl, rfl, trivial⟩ (fun _ hs => by have h1 := (((hs.pull (.there (.there .here))).pull (.there (.there .here))).pull (.there (.there .here))); (try dsimp only); rw [List.take_add_one, hx28, fm_app]; exact h1) 
            · refine Ops.q (q_cmp rfl rfl (c_nlt (by omega))) ?_
              have hk : k = ms.length := by omega
              rw [hk, List.take_length]
              refine Ops.to rfl ?_
              refine Cd.cond_f rfl ?_
              refine Cd.exitTo rfl ?_
              refine Cd.seq ?_
              refine Cd.region ?_
              refine Ops.q (q_mv rfl) ?_
              refine Ops.q (q_mv rfl) ?_
              refine Ops.q (q_mv rfl) ?_
              refine Ops.cl (α := (Option Addr × Nat) × (Option Addr × Nat)) (v := fun x => .tuple #[.agg #[.slice x.1.1 (exN (patP ip ms miss)).ns.length x.1.2, .int .i64 (exN (patP ip ms miss)).inp, .slice x.2.1 (exN (patP ip ms miss)).ss.length x.2.2], .int .i64 (errN (patP ip ms miss))]) (B := fun x => [row x.1.1 x.1.2 116 8 (exN (patP ip ms miss)).ns.length ((exN (patP ip ms miss)).ns.flatMap ePrm), row x.2.1 x.2.2 126 4 (exN (patP ip ms miss)).ss.length ((exN (patP ip ms miss)).ss.flatMap eSyn)]) en_32 rfl (fun w hs => retR_any (pattern_c ip _ _ ms miss w (hs.ownRo .here) (rowle_any hs .here))) ?_
              rintro ⟨⟨p39, pc40⟩, ⟨q41, qc42⟩⟩
              refine Ops.q (q_mv rfl) ?_
              refine Ops.q (q_ext rfl rfl) ?_
              refine Ops.q (q_ext rfl rfl) ?_
              refine Ops.stB [.slice p39 ((exN (patP ip ms miss)).ns.length) pc40, .int .i64 ((exN (patP ip ms miss)).inp), .slice q41 ((exN (patP ip ms miss)).ss.length) qc42] [.slice p39 ((exN (patP ip ms miss)).ns.length) pc40, .int .i64 ((exN (patP ip ms miss)).inp), .slice q41 ((exN (patP ip ms miss)).ss.length) qc42] sz_32 rfl rfl rfl (one rfl) (.there (.there (.there (.there .here)))) rfl rfl ?_
              refine Ops.q (q_asg rfl) ?_
              refine Ops.to rfl ?_
              refine Cd.seq ?_
              refine Cd.region ?_
              refine Ops.q (q_mv rfl) ?_
              refine Ops.q (q_mv rfl) ?_
              refine Ops.q (q_mv rfl) ?_
              refine Ops.cl (α := (Option Addr × Nat) × (Option Addr × Nat)) (v := fun x => .tuple #[.agg #[.slice x.1.1 (exN (patP ip ms miss)).ns.length x.1.2, .int .i64 (exN (patP ip ms miss)).inp, .slice x.2.1 (exN (patP ip ms miss)).ss.length x.2.2], .int .i64 (errN (patP ip ms miss))]) (B := fun x => [row x.1.1 x.1.2 116 8 (exN (patP ip ms miss)).ns.length ((exN (patP ip ms miss)).ns.flatMap ePrm), row x.2.1 x.2.2 126 4 (exN (patP ip ms miss)).ss.length ((exN (patP ip ms miss)).ss.flatMap eSyn)]) en_33 rfl (fun w hs => retR_any (rpattern_c ip _ _ ms miss w (hM.later hs.below))) ?_
              rintro ⟨⟨p43, pc44⟩, ⟨q45, qc46⟩⟩
              refine Ops.q (q_mv rfl) ?_
              refine Ops.q (q_ext rfl rfl) ?_
              refine Ops.q (q_ext rfl rfl) ?_
              refine Ops.stB [.slice p43 ((exN (patP ip ms miss)).ns.length) pc44, .int .i64 ((exN (patP ip ms miss)).inp), .slice q45 ((exN (patP ip ms miss)).ss.length) qc46] [.slice p43 ((exN (patP ip ms miss)).ns.length) pc44, .int .i64 ((exN (patP ip ms miss)).inp), .slice q45 ((exN (patP ip ms miss)).ss.length) qc46] sz_32 rfl rfl rfl (one rfl) (.there (.there (.there (.there (.there .here))))) rfl rfl ?_
              refine Ops.q (q_asg rfl) ?_
              refine Ops.to rfl ?_
              refine Cd.seq ?_
              refine Cd.region ?_
              refine Ops.q (q_ldBN [.slice p39 ((exN (patP ip ms miss)).ns.length) pc40, .int .i64 ((exN (patP ip ms miss)).inp), .slice q41 ((exN (patP ip ms miss)).ss.length) qc42] isA_32 sz_32 rfl (.there (.there (.there (.there (.there (.there .here)))))) rfl) ?_
              refine Ops.q (q_ldBN [.slice p43 ((exN (patP ip ms miss)).ns.length) pc44, .int .i64 ((exN (patP ip ms miss)).inp), .slice q45 ((exN (patP ip ms miss)).ss.length) qc46] isA_32 sz_32 rfl (.there (.there (.there (.there (.there .here))))) rfl) ?_
              refine Ops.cp en_17 rfl (fun w hs => dT (nets_c _ _ _ _ _ _ _ _ (exN (patP ip ms miss)).ns (exN (patP ip ms miss)).ns ((exN (patP ip ms miss)).inp) ((exN (patP ip ms miss)).inp) (exN (patP ip ms miss)).ss (exN (patP ip ms miss)).ss w (hs.ownRo (.there (.there .here))) (hs.ownRo .here) (hs.ownRo (.there (.there (.there .here)))) (hs.ownRo (.there .here)) (rowmax hs (.there (.there .here))) (rowmax hs (.there (.there (.there .here))))) ⟨rfl, rfl, rfl⟩) ?_
              refine Ops.q (q_mv rfl) ?_
              refine Ops.q (q_mv rfl) ?_
              refine Ops.q (q_mv rfl) ?_
              refine Ops.q (q_cmp rfl rfl (c_eq rfl)) ?_
              refine Ops.q (q_pickT rfl rfl) ?_
              refine Ops.q (q_mv rfl) ?_
              refine Ops.cp en_13 rfl (fun w hs => works_c w) ?_
              refine Ops.q (q_pickT rfl rfl) ?_
              refine Ops.q (q_asg rfl) ?_
              refine Ops.to rfl ?_
              refine Cd.rt (fn := Try.f5) [.bool true] (by with_reducible repeat (first | exact rq_here | apply rq_then | apply rq_block)) rfl ⟨rfl, trivial⟩ ?_
              intro w' hs'
              exact ⟨rfl, hs'.none⟩
  · refine Ops.q (q_cmp rfl rfl (c_ngt (by omega))) ?_
    refine Ops.q (q_mv rfl) ?_
    refine Ops.sk ?_
    refine Ops.sk ?_
    refine Ops.sk ?_
    refine Ops.q (q_pickF rfl rfl) ?_
    refine Ops.q (q_mv rfl) ?_
    refine Ops.q (q_mv rfl) ?_
    refine Ops.q (q_len esz_65 rfl) ?_
    by_cases h47 : 520 < (ts.length : Int)
    · refine Ops.q (q_cmp rfl rfl (c_gt h47)) ?_
      refine Ops.q (q_pickF rfl rfl) ?_
      refine Ops.q (q_mv rfl) ?_
      refine Ops.sk ?_
      refine Ops.sk ?_
      refine Ops.sk ?_
      refine Ops.q (q_pickT rfl rfl) ?_
      refine Ops.to rfl ?_
      refine Cd.cond_t rfl ?_
      refine Cd.seq ?_
      refine Cd.region ?_
      refine Ops.cp en_13 rfl (fun w hs => works_c w) ?_
      refine Ops.q (q_asg rfl) ?_
      refine Ops.to rfl ?_
      refine Cd.rt (fn := Try.f5) [.bool true] (by with_reducible repeat (first | exact rq_here | apply rq_then | apply rq_block)) rfl ⟨rfl, trivial⟩ ?_
      intro w' hs'
      exact ⟨rfl, hs'.none⟩
    · refine Ops.q (q_cmp rfl rfl (c_ngt (by omega))) ?_
      refine Ops.q (q_pickF rfl rfl) ?_
      refine Ops.q (q_mv rfl) ?_
      refine Ops.q (q_mv rfl) ?_
      refine Ops.q (q_len esz_66 rfl) ?_
      by_cases h48 : 70 < (ms.length : Int)
      · refine Ops.q (q_cmp rfl rfl (c_gt h48)) ?_
        refine Ops.q (q_pickF rfl rfl) ?_
        refine Ops.to rfl ?_
        refine Cd.cond_t rfl ?_
        refine Cd.seq ?_
        refine Cd.region ?_
        refine Ops.cp en_13 rfl (fun w hs => works_c w) ?_
        refine Ops.q (q_asg rfl) ?_
        refine Ops.to rfl ?_
        refine Cd.rt (fn := Try.f5) [.bool true] (by with_reducible repeat (first | exact rq_here | apply rq_then | apply rq_block)) rfl ⟨rfl, trivial⟩ ?_
        intro w' hs'
        exact ⟨rfl, hs'.none⟩
      · refine Ops.q (q_cmp rfl rfl (c_ngt (by omega))) ?_
        refine Ops.q (q_pickF rfl rfl) ?_
        refine Ops.to rfl ?_
        refine Cd.cond_f rfl ?_
        refine Cd.skipTo rfl ?_
        refine Cd.seq ?_
        refine Cd.region ?_
        refine Ops.q (q_asg rfl) ?_
        refine Ops.to rfl ?_
        refine Cd.seq ?_
        refine Cd.seq ?_
        refine Cd.region ?_
        refine Ops.q (q_asg rfl) ?_
        refine Ops.to rfl ?_
        refine Cd.block ?_
        refine Cd.lp (σ := Nat × Option Addr × Nat) (fun s => s.1 ≤ ts.length) (fun s => [(0, .int .i64 ip), (1, .slice ta ts.length tc), (2, .int .i64 th), (3, .slice ma ms.length mc), (4, .int .i64 miss), (11, .slice s.2.1 s.1 s.2.2), (12, .int .i64 (s.1 : Int))]) (fun s => [row s.2.1 s.2.2 70 3 s.1 ((ts.take s.1).flatMap eTap)]) (fun s => ts.length - s.1) (0, none, 0) (Nat.zero_le _) ⟨rfl, rfl, rfl, rfl, rfl, rfl, rfl, trivial⟩ (fun _ hs => by have h1 := (hs).nilRow 70 3; exact h1) ?_
        rintro ⟨k, pa, pc⟩ hI
        dsimp only at hI
        change Cd _ _ _ _ _ _ _ [(0, .int .i64 ip), (1, .slice ta ts.length tc), (2, .int .i64 th), (3, .slice ma ms.length mc), (4, .int .i64 miss), (11, .slice pa k pc), (12, .int .i64 (k : Int))] ([row pa pc 70 3 k ((ts.take k).flatMap eTap)])
        refine Cd.seq ?_
        refine Cd.seq ?_
        refine Cd.region ?_
        refine Ops.q (q_mv rfl) ?_
        refine Ops.q (q_mv rfl) ?_
        refine Ops.q (q_len esz_65 rfl) ?_
        by_cases hk : (k : Int) < (ts.length : Int)
        · refine Ops.q (q_cmp rfl rfl (c_lt hk)) ?_
          obtain ⟨x49, hx50⟩ : ∃ x, ts[k]? = some x := ⟨_, List.getElem?_eq_getElem (by omega)⟩
          obtain ⟨ab51, ao52, rfl⟩ := RoL.pos hT eTap_len hx50
          refine Ops.to rfl ?_
          refine Cd.cond_t rfl ?_
          refine Cd.skipTo rfl ?_
          refine Cd.seq ?_
          refine Cd.block ?_
          refine Cd.draw rfl (by kernel_rfl) .nil ?_
          intro F53 St54 hP55 hF56 hR57
          refine Dr.q (i := 0) hP55 rfl (by kernel_rfl) (q_mv rfl) ?_
          refine Dr.q (i := 1) hP55 rfl (by kernel_rfl) (q_mv rfl) ?_
          refine Dr.q (i := 2) hP55 rfl (by kernel_rfl) (q_mv rfl) ?_
          refine Dr.q (i := 3) hP55 rfl (by kernel_rfl) (q_ix (k := k) esz_65 rfl rfl (by omega)) ?_
          refine Dr.q (i := 4) hP55 rfl (by kernel_rfl) (q_fa fo_69_0 rfl) ?_
          refine Dr.q (i := 5) hP55 rfl (by kernel_rfl) (q_ldR isA_3 rfl (hT.at eTap_len hx50 rfl)) ?_
          refine Dr.q (i := 6) hP55 rfl (by kernel_rfl) (q_mv rfl) ?_
          refine Dr.q (i := 7) hP55 rfl (by kernel_rfl) (q_mv rfl) ?_
          refine Dr.q (i := 8) hP55 rfl (by kernel_rfl) (q_ix (k := k) esz_65 rfl rfl (by omega)) ?_
          refine Dr.q (i := 9) hP55 rfl (by kernel_rfl) (q_fa fo_69_1 rfl) ?_
          refine Dr.q (i := 10) hP55 rfl (by kernel_rfl) (q_ldR isA_3 rfl (hT.at eTap_len hx50 rfl)) ?_
          refine Dr.q (i := 11) hP55 rfl (by kernel_rfl) (q_mv rfl) ?_
          refine Dr.q (i := 12) hP55 rfl (by kernel_rfl) (q_mv rfl) ?_
          refine Dr.q (i := 13) hP55 rfl (by kernel_rfl) (q_ix (k := k) esz_65 rfl rfl (by omega)) ?_
          refine Dr.q (i := 14) hP55 rfl (by kernel_rfl) (q_fa fo_69_2 rfl) ?_
          refine Dr.q (i := 15) hP55 rfl (by kernel_rfl) (q_ldR isA_3 rfl (hT.at eTap_len hx50 rfl)) ?_
          refine Dr.q (i := 16) hP55 rfl (by kernel_rfl) (q_bld [.int .i64 x49.inp, .int .i64 x49.wt, .int .i64 x49.dl] pls_70 zc_70 rfl rfl) ?_
          refine Dr.e (i := 17) rfl (by kernel_rfl) ?_
          refine Ops.lit [.int .i64 x49.inp, .int .i64 x49.wt, .int .i64 x49.dl] el_67 zsb_70 rfl rfl ⟨by decide, by decide⟩ rfl ?_
          intro b58
          refine Dr.back (fun _ hs => hF56 (.there .here) hs) ?_
          refine Dr.e (i := 18) rfl (by kernel_rfl) ?_
          refine Ops.app (news := [.int .i64 x49.inp, .int .i64 x49.wt, .int .i64 x49.dl]) el_67 zsb_70 (by decide) rfl rfl (fun _ hs => hs.ownRo .here) (fun _ hs => (hs.pull .here).drop) (fun _ _ => (.there .here)) rfl (one rfl) (by omega) (by omega) ?_
          intro a59 c60
          refine Dr.back (fun _ hs => hF56 .here hs) ?_
          refine Dr.tail 19 (by kernel_rfl) ?_
          refine Ops.sat ?_ (fun _ hs => hR57 .here hs)
          refine Ops.q (q_asg rfl) ?_
          refine Ops.to rfl ?_
          refine Cd.region ?_
          refine Ops.q (q_mv rfl) ?_
          refine Ops.q (q_ar rfl rfl (a_inc (by omega))) ?_
          refine Ops.q (q_asg rfl) ?_
          refine Ops.rnd ((k + 1, a59, c60)) rfl (by dsimp only; exact (by omega)) (by dsimp only; omega) ⟨rfl, rfl, rfl, rfl, rfl, rfl, rfl, trivial⟩ (fun _ hs => by have h1 := (hs.pull .here); (try dsimp only); rw [List.take_add_one, hx50, fm_app]; exact h1) 
        · refine Ops.q (q_cmp rfl rfl (c_nlt (by omega))) ?_
          have hk : k = ts.length := by omega
          rw [hk, List.take_length]
          refine Ops.to rfl ?_
          refine Cd.cond_f rfl ?_
          refine Cd.exitTo rfl ?_
          refine Cd.seq ?_
          refine Cd.region ?_
          refine Ops.q (q_mv rfl) ?_
          refine Ops.q (q_mv rfl) ?_
          refine Ops.q (q_mv rfl) ?_
          refine Ops.cl (α := (Option Addr × Nat) × (Option Addr × Nat)) (v := fun x => .tuple #[.agg #[.slice x.1.1 (exN (countP ip ts th)).ns.length x.1.2, .int .i64 (exN (countP ip ts th)).inp, .slice x.2.1 (exN (countP ip ts th)).ss.length x.2.2], .int .i64 (errN (countP ip ts th))]) (B := fun x => [row x.1.1 x.1.2 116 8 (exN (countP ip ts th)).ns.length ((exN (countP ip ts th)).ns.flatMap ePrm), row x.2.1 x.2.2 126 4 (exN (countP ip ts th)).ss.length ((exN (countP ip ts th)).ss.flatMap eSyn)]) en_30 rfl (fun w hs => retR_any (count_c ip _ _ ts th w (hs.ownRo .here))) ?_
          rintro ⟨⟨p61, pc62⟩, ⟨q63, qc64⟩⟩
          refine Ops.q (q_mv rfl) ?_
          refine Ops.q (q_ext rfl rfl) ?_
          refine Ops.q (q_ext rfl rfl) ?_
          refine Ops.alc [.slice none 0 0, .int .i64 0, .slice none 0 0] zc_32 ?_
          intro b65
          refine Ops.stB [.slice p61 ((exN (countP ip ts th)).ns.length) pc62, .int .i64 ((exN (countP ip ts th)).inp), .slice q63 ((exN (countP ip ts th)).ss.length) qc64] [.slice p61 ((exN (countP ip ts th)).ns.length) pc62, .int .i64 ((exN (countP ip ts th)).inp), .slice q63 ((exN (countP ip ts th)).ss.length) qc64] sz_32 rfl rfl rfl (one rfl) .here rfl rfl ?_
          refine Ops.q (q_asg rfl) ?_
          refine Ops.to rfl ?_
          refine Cd.seq ?_
          refine Cd.region ?_
          refine Ops.q (q_mv rfl) ?_
          refine Ops.q (q_mv rfl) ?_
          refine Ops.q (q_mv rfl) ?_
          refine Ops.cl (α := (Option Addr × Nat) × (Option Addr × Nat)) (v := fun x => .tuple #[.agg #[.slice x.1.1 (exN (countP ip ts th)).ns.length x.1.2, .int .i64 (exN (countP ip ts th)).inp, .slice x.2.1 (exN (countP ip ts th)).ss.length x.2.2], .int .i64 (errN (countP ip ts th))]) (B := fun x => [row x.1.1 x.1.2 116 8 (exN (countP ip ts th)).ns.length ((exN (countP ip ts th)).ns.flatMap ePrm), row x.2.1 x.2.2 126 4 (exN (countP ip ts th)).ss.length ((exN (countP ip ts th)).ss.flatMap eSyn)]) en_31 rfl (fun w hs => retR_any (rcount_c ip _ _ ts th w (hT.later hs.below))) ?_
          rintro ⟨⟨p66, pc67⟩, ⟨q68, qc69⟩⟩
          refine Ops.q (q_mv rfl) ?_
          refine Ops.q (q_ext rfl rfl) ?_
          refine Ops.q (q_ext rfl rfl) ?_
          refine Ops.alc [.slice none 0 0, .int .i64 0, .slice none 0 0] zc_32 ?_
          intro b70
          refine Ops.stB [.slice p66 ((exN (countP ip ts th)).ns.length) pc67, .int .i64 ((exN (countP ip ts th)).inp), .slice q68 ((exN (countP ip ts th)).ss.length) qc69] [.slice p66 ((exN (countP ip ts th)).ns.length) pc67, .int .i64 ((exN (countP ip ts th)).inp), .slice q68 ((exN (countP ip ts th)).ss.length) qc69] sz_32 rfl rfl rfl (one rfl) .here rfl rfl ?_
          refine Ops.q (q_asg rfl) ?_
          refine Ops.to rfl ?_
          refine Cd.seq ?_
          refine Cd.seq ?_
          refine Cd.region ?_
          refine Ops.q (q_ldBN [.slice p61 ((exN (countP ip ts th)).ns.length) pc62, .int .i64 ((exN (countP ip ts th)).inp), .slice q63 ((exN (countP ip ts th)).ss.length) qc64] isA_32 sz_32 rfl (.there (.there (.there .here))) rfl) ?_
          refine Ops.q (q_ldBN [.slice p66 ((exN (countP ip ts th)).ns.length) pc67, .int .i64 ((exN (countP ip ts th)).inp), .slice q68 ((exN (countP ip ts th)).ss.length) qc69] isA_32 sz_32 rfl .here rfl) ?_
          refine Ops.cp en_17 rfl (fun w hs => dT (nets_c _ _ _ _ _ _ _ _ (exN (countP ip ts th)).ns (exN (countP ip ts th)).ns ((exN (countP ip ts th)).inp) ((exN (countP ip ts th)).inp) (exN (countP ip ts th)).ss (exN (countP ip ts th)).ss w (hs.ownRo (.there (.there (.there (.there .here))))) (hs.ownRo (.there .here)) (hs.ownRo (.there (.there (.there (.there (.there .here)))))) (hs.ownRo (.there (.there .here))) (rowmax hs (.there (.there (.there (.there .here))))) (rowmax hs (.there (.there (.there (.there (.there .here))))))) ⟨rfl, rfl, rfl⟩) ?_
          refine Ops.q (q_not rfl) ?_
          refine Ops.q (q_mv rfl) ?_
          refine Ops.q (q_mv rfl) ?_
          refine Ops.q (q_mv rfl) ?_
          refine Ops.q (q_cmp rfl rfl (c_nne rfl)) ?_
          refine Ops.q (q_pickF rfl rfl) ?_
          refine Ops.to rfl ?_
          refine Cd.cond_f rfl ?_
          refine Cd.skipTo rfl ?_
          refine Cd.seq ?_
          refine Cd.region ?_
          refine Ops.q (q_asg rfl) ?_
          refine Ops.to rfl ?_
          refine Cd.seq ?_
          refine Cd.seq ?_
          refine Cd.region ?_
          refine Ops.q (q_asg rfl) ?_
          refine Ops.to rfl ?_
          refine Cd.block ?_
          refine Cd.lp (σ := Nat × Option Addr × Nat) (fun s => s.1 ≤ ms.length) (fun s => [(0, .int .i64 ip), (1, .slice ta ts.length tc), (2, .int .i64 th), (3, .slice ma ms.length mc), (4, .int .i64 miss), (13, .pointer (some ⟨b65, 0, none⟩)), (15, .pointer (some ⟨b70, 0, none⟩)), (17, .slice s.2.1 s.1 s.2.2), (18, .int .i64 (s.1 : Int))]) (fun s => [row s.2.1 s.2.2 76 2 s.1 ((ms.take s.1).flatMap eMark), blk b70 32 [.slice p66 ((exN (countP ip ts th)).ns.length) pc67, .int .i64 ((exN (countP ip ts th)).inp), .slice q68 ((exN (countP ip ts th)).ss.length) qc69], blk b65 32 [.slice p61 ((exN (countP ip ts th)).ns.length) pc62, .int .i64 ((exN (countP ip ts th)).inp), .slice q63 ((exN (countP ip ts th)).ss.length) qc64]]) (fun s => ms.length - s.1) (0, none, 0) (Nat.zero_le _) ⟨rfl, rfl, rfl, rfl, rfl, rfl, rfl, rfl, rfl, trivial⟩ (fun _ hs => by have h1 := ((((((((hs.pull (.there (.there (.there .here)))).pull (.there .here)).pull (.there (.there .here))).drop.pull (.there (.there .here))).drop.pull (.there (.there .here))).drop.pull (.there (.there .here))).drop.pull (.there (.there .here))).drop).nilRow 76 2; exact h1) ?_
          rintro ⟨k, pa, pc⟩ hI
          dsimp only at hI
          change Cd _ _ _ _ _ _ _ [(0, .int .i64 ip), (1, .slice ta ts.length tc), (2, .int .i64 th), (3, .slice ma ms.length mc), (4, .int .i64 miss), (13, .pointer (some ⟨b65, 0, none⟩)), (15, .pointer (some ⟨b70, 0, none⟩)), (17, .slice pa k pc), (18, .int .i64 (k : Int))] ([row pa pc 76 2 k ((ms.take k).flatMap eMark), blk b70 32 [.slice p66 ((exN (countP ip ts th)).ns.length) pc67, .int .i64 ((exN (countP ip ts th)).inp), .slice q68 ((exN (countP ip ts th)).ss.length) qc69], blk b65 32 [.slice p61 ((exN (countP ip ts th)).ns.length) pc62, .int .i64 ((exN (countP ip ts th)).inp), .slice q63 ((exN (countP ip ts th)).ss.length) qc64]])
          refine Cd.seq ?_
          refine Cd.seq ?_
          refine Cd.region ?_
          refine Ops.q (q_mv rfl) ?_
          refine Ops.q (q_mv rfl) ?_
          refine Ops.q (q_len esz_66 rfl) ?_
          by_cases hk : (k : Int) < (ms.length : Int)
          · refine Ops.q (q_cmp rfl rfl (c_lt hk)) ?_
            obtain ⟨x71, hx72⟩ : ∃ x, ms[k]? = some x := ⟨_, List.getElem?_eq_getElem (by omega)⟩
            obtain ⟨ab73, ao74, rfl⟩ := RoL.pos hM eMark_len hx72
            refine Ops.to rfl ?_
            refine Cd.cond_t rfl ?_
            refine Cd.skipTo rfl ?_
            refine Cd.seq ?_
            refine Cd.block ?_
            refine Cd.draw rfl (by kernel_rfl) .nil ?_
            intro F75 St76 hP77 hF78 hR79
            refine Dr.q (i := 0) hP77 rfl (by kernel_rfl) (q_mv rfl) ?_
            refine Dr.q (i := 1) hP77 rfl (by kernel_rfl) (q_mv rfl) ?_
            refine Dr.q (i := 2) hP77 rfl (by kernel_rfl) (q_mv rfl) ?_
            refine Dr.q (i := 3) hP77 rfl (by kernel_rfl) (q_ix (k := k) esz_66 rfl rfl (by omega)) ?_
            refine Dr.q (i := 4) hP77 rfl (by kernel_rfl) (q_fa fo_75_0 rfl) ?_
            refine Dr.q (i := 5) hP77 rfl (by kernel_rfl) (q_ldR isA_3 rfl (hM.at eMark_len hx72 rfl)) ?_
            refine Dr.q (i := 6) hP77 rfl (by kernel_rfl) (q_mv rfl) ?_
            refine Dr.q (i := 7) hP77 rfl (by kernel_rfl) (q_mv rfl) ?_
            refine Dr.q (i := 8) hP77 rfl (by kernel_rfl) (q_ix (k := k) esz_66 rfl rfl (by omega)) ?_
            refine Dr.q (i := 9) hP77 rfl (by kernel_rfl) (q_fa fo_75_1 rfl) ?_
            refine Dr.q (i := 10) hP77 rfl (by kernel_rfl) (q_ldR isA_3 rfl (hM.at eMark_len hx72 rfl)) ?_
            refine Dr.q (i := 11) hP77 rfl (by kernel_rfl) (q_bld [.int .i64 x71.inp, .int .i64 x71.off] pls_76 zc_76 rfl rfl) ?_
            refine Dr.e (i := 12) rfl (by kernel_rfl) ?_
            refine Ops.lit [.int .i64 x71.inp, .int .i64 x71.off] el_73 zsb_76 rfl rfl ⟨by decide, by decide⟩ rfl ?_
            intro b80
            refine Dr.back (fun _ hs => hF78 (.there .here) hs) ?_
            refine Dr.e (i := 13) rfl (by kernel_rfl) ?_
            refine Ops.app (news := [.int .i64 x71.inp, .int .i64 x71.off]) el_73 zsb_76 (by decide) rfl rfl (fun _ hs => hs.ownRo .here) (fun _ hs => (hs.pull .here).drop) (fun _ _ => (.there .here)) rfl (one rfl) (by omega) (by omega) ?_
            intro a81 c82
            refine Dr.back (fun _ hs => hF78 .here hs) ?_
            refine Dr.tail 14 (by kernel_rfl) ?_
            refine Ops.sat ?_ (fun _ hs => hR79 .here hs)
            refine Ops.q (q_asg rfl) ?_
            refine Ops.to rfl ?_
            refine Cd.region ?_
            refine Ops.q (q_mv rfl) ?_
            refine Ops.q (q_ar rfl rfl (a_inc (by omega))) ?_
            refine Ops.q (q_asg rfl) ?_
            refine Ops.rnd ((k + 1, a81, c82)) rfl (by dsimp only; exact (by omega)) (by dsimp only; omega) ⟨rfl, rfl, rfl, rfl, rfl, rfl, rfl, rfl, rfl, trivial⟩ (fun _ hs => by have h1 := (((hs.pull (.there (.there .here))).pull (.there (.there .here))).pull (.there (.there .here))); (try dsimp only); rw [List.take_add_one, hx72, fm_app]; exact h1) 
          · refine Ops.q (q_cmp rfl rfl (c_nlt (by omega))) ?_
            have hk : k = ms.length := by omega
            rw [hk, List.take_length]
            refine Ops.to rfl ?_
            refine Cd.cond_f rfl ?_
            refine Cd.exitTo rfl ?_
            refine Cd.seq ?_
            refine Cd.region ?_
            refine Ops.q (q_mv rfl) ?_
            refine Ops.q (q_mv rfl) ?_
            refine Ops.q (q_mv rfl) ?_
            refine Ops.cl (α := (Option Addr × Nat) × (Option Addr × Nat)) (v := fun x => .tuple #[.agg #[.slice x.1.1 (exN (patP ip ms miss)).ns.length x.1.2, .int .i64 (exN (patP ip ms miss)).inp, .slice x.2.1 (exN (patP ip ms miss)).ss.length x.2.2], .int .i64 (errN (patP ip ms miss))]) (B := fun x => [row x.1.1 x.1.2 116 8 (exN (patP ip ms miss)).ns.length ((exN (patP ip ms miss)).ns.flatMap ePrm), row x.2.1 x.2.2 126 4 (exN (patP ip ms miss)).ss.length ((exN (patP ip ms miss)).ss.flatMap eSyn)]) en_32 rfl (fun w hs => retR_any (pattern_c ip _ _ ms miss w (hs.ownRo .here) (rowle_any hs .here))) ?_
            rintro ⟨⟨p83, pc84⟩, ⟨q85, qc86⟩⟩
            refine Ops.q (q_mv rfl) ?_
            refine Ops.q (q_ext rfl rfl) ?_
            refine Ops.q (q_ext rfl rfl) ?_
            refine Ops.stB [.slice p83 ((exN (patP ip ms miss)).ns.length) pc84, .int .i64 ((exN (patP ip ms miss)).inp), .slice q85 ((exN (patP ip ms miss)).ss.length) qc86] [.slice p83 ((exN (patP ip ms miss)).ns.length) pc84, .int .i64 ((exN (patP ip ms miss)).inp), .slice q85 ((exN (patP ip ms miss)).ss.length) qc86] sz_32 rfl rfl rfl (one rfl) (.there (.there (.there (.there .here)))) rfl rfl ?_
            refine Ops.q (q_asg rfl) ?_
            refine Ops.to rfl ?_
            refine Cd.seq ?_
            refine Cd.region ?_
            refine Ops.q (q_mv rfl) ?_
            refine Ops.q (q_mv rfl) ?_
            refine Ops.q (q_mv rfl) ?_
            refine Ops.cl (α := (Option Addr × Nat) × (Option Addr × Nat)) (v := fun x => .tuple #[.agg #[.slice x.1.1 (exN (patP ip ms miss)).ns.length x.1.2, .int .i64 (exN (patP ip ms miss)).inp, .slice x.2.1 (exN (patP ip ms miss)).ss.length x.2.2], .int .i64 (errN (patP ip ms miss))]) (B := fun x => [row x.1.1 x.1.2 116 8 (exN (patP ip ms miss)).ns.length ((exN (patP ip ms miss)).ns.flatMap ePrm), row x.2.1 x.2.2 126 4 (exN (patP ip ms miss)).ss.length ((exN (patP ip ms miss)).ss.flatMap eSyn)]) en_33 rfl (fun w hs => retR_any (rpattern_c ip _ _ ms miss w (hM.later hs.below))) ?_
            rintro ⟨⟨p87, pc88⟩, ⟨q89, qc90⟩⟩
            refine Ops.q (q_mv rfl) ?_
            refine Ops.q (q_ext rfl rfl) ?_
            refine Ops.q (q_ext rfl rfl) ?_
            refine Ops.stB [.slice p87 ((exN (patP ip ms miss)).ns.length) pc88, .int .i64 ((exN (patP ip ms miss)).inp), .slice q89 ((exN (patP ip ms miss)).ss.length) qc90] [.slice p87 ((exN (patP ip ms miss)).ns.length) pc88, .int .i64 ((exN (patP ip ms miss)).inp), .slice q89 ((exN (patP ip ms miss)).ss.length) qc90] sz_32 rfl rfl rfl (one rfl) (.there (.there (.there (.there (.there .here))))) rfl rfl ?_
            refine Ops.q (q_asg rfl) ?_
            refine Ops.to rfl ?_
            refine Cd.seq ?_
            refine Cd.region ?_
            refine Ops.q (q_ldBN [.slice p83 ((exN (patP ip ms miss)).ns.length) pc84, .int .i64 ((exN (patP ip ms miss)).inp), .slice q85 ((exN (patP ip ms miss)).ss.length) qc86] isA_32 sz_32 rfl (.there (.there (.there (.there (.there (.there .here)))))) rfl) ?_
            refine Ops.q (q_ldBN [.slice p87 ((exN (patP ip ms miss)).ns.length) pc88, .int .i64 ((exN (patP ip ms miss)).inp), .slice q89 ((exN (patP ip ms miss)).ss.length) qc90] isA_32 sz_32 rfl (.there (.there (.there (.there (.there .here))))) rfl) ?_
            refine Ops.cp en_17 rfl (fun w hs => dT (nets_c _ _ _ _ _ _ _ _ (exN (patP ip ms miss)).ns (exN (patP ip ms miss)).ns ((exN (patP ip ms miss)).inp) ((exN (patP ip ms miss)).inp) (exN (patP ip ms miss)).ss (exN (patP ip ms miss)).ss w (hs.ownRo (.there (.there .here))) (hs.ownRo .here) (hs.ownRo (.there (.there (.there .here)))) (hs.ownRo (.there .here)) (rowmax hs (.there (.there .here))) (rowmax hs (.there (.there (.there .here))))) ⟨rfl, rfl, rfl⟩) ?_
            refine Ops.q (q_mv rfl) ?_
            refine Ops.q (q_mv rfl) ?_
            refine Ops.q (q_mv rfl) ?_
            refine Ops.q (q_cmp rfl rfl (c_eq rfl)) ?_
            refine Ops.q (q_pickT rfl rfl) ?_
            refine Ops.q (q_mv rfl) ?_
            refine Ops.cp en_13 rfl (fun w hs => works_c w) ?_
            refine Ops.q (q_pickT rfl rfl) ?_
            refine Ops.q (q_asg rfl) ?_
            refine Ops.to rfl ?_
            refine Cd.rt (fn := Try.f5) [.bool true] (by with_reducible repeat (first | exact rq_here | apply rq_then | apply rq_block)) rfl ⟨rfl, trivial⟩ ?_
            intro w' hs'
            exact ⟨rfl, hs'.none⟩
end Go.Proofs.Ytilcdghliigngaa
