/- Part of a claim: the program logic, the contracts of the functions, their models. No condition. -/
import Derived.WalkKit
import Derived.OwnWalkIn
import Derived.TacticsInMore
import Derived.OrdersIn
import Derived.RangeFuncLeaves
import Derived.RangeFuncNested
import Derived.Maps.AppendAt
import Derived.Shelf.Abstract
import Derived.Test.YtilcdghliigngaaProg
import Derived.MapKept
import Derived.Laws.StructEq
import Derived.Laws.OwnMore
import Derived.RangeFuncRecord
import Derived.Lib.SliceRun
import Derived.Lib.AppendZeros
import Derived.Lib.AppendZerosOnto
import Derived.Lib.Overlaps
import Derived.Laws.Externs
import Derived.Test.YtilcdghliigngaaPi3
namespace Go.Proofs.Ytilcdghliigngaa
open Go.RowKit Go.Proofs.YtilcdghliigngaaGl Go.Proofs.YtilcdghliigngaaPm
set_option linter.unusedVariables false
set_option linter.unusedSimpArgs false
theorem intS_76 : intS Try.prog 76 = some 2 := by kernel_rfl
section
variable {P : Program} {w0 : World} {n : Nat} {D : List Deferred} {L : Env} {A : List Atom}
theorem q_eqF {T tz : TypeId} {x y : Operand} (vs us : List Int) {v u : Value} (hT : intS P T = some vs.length) (hx : ev L x = some v) (hy : ev L y = some u) (hv : v = .agg (ints vs).toArray) (hu : u = .agg (ints us).toArray) (hl : us.length = vs.length) (h : vs ≠ us) : Qv P w0 n D L A (.binOp .eql T x y tz) (.bool false) := by
  have := q_eqS (P := P) (w0 := w0) (n := n) (D := D) (A := A) (tz := tz) vs us hT hx hy hv hu hl
  rwa [show (vs == us) = false by simp [h]] at this
theorem q_eqT {T tz : TypeId} {x y : Operand} (vs us : List Int) {v u : Value} (hT : intS P T = some vs.length) (hx : ev L x = some v) (hy : ev L y = some u) (hv : v = .agg (ints vs).toArray) (hu : u = .agg (ints us).toArray) (hl : us.length = vs.length) (h : vs = us) : Qv P w0 n D L A (.binOp .eql T x y tz) (.bool true) := by
  have := q_eqS (P := P) (w0 := w0) (n := n) (D := D) (A := A) (tz := tz) vs us hT hx hy hv hu hl
  rwa [show (vs == us) = true by simp [h]] at this
end
theorem RoL.take {α : Type} {w : World} {a : Option Addr} {enc : α → List Value} {xs : List α} (h : RoL w a enc xs) (k : Nat) : RoL w a enc (xs.take k) := fun j u hu => by
  refine h j u ?_
  rw [← List.take_append_drop k xs, List.flatMap_append, List.getElem?_append_left (List.getElem?_eq_some_iff.1 hu).1]
  exact hu
def mrkE (ip : Int) (pre : List Mrk) (m : Mrk) : Int := if wi m.inp 0 (ip - 1) then (if wi m.off 0 15 then (if m ∈ pre then 5 else 0) else 3) else 4
def patE (ip : Int) : List Mrk → List Mrk → Int
  | _, [] => 0
  | pre, m :: r => if mrkE ip pre m ≠ 0 then mrkE ip pre m else patE ip (pre ++ [m]) r
def mrkS (m : Mrk) : Syn := ⟨-1 - m.inp, 0, 1, 16 - m.off⟩
def patP (ip : Int) (ms : List Mrk) (miss : Int) : Except Int NetP :=
  if wi ip 1 256 then
    if 64 < ms.length then .error 9
    else if ms.length = 0 then .error 2
    else if patE ip [] ms ≠ 0 then .error (patE ip [] ms)
    else if wi miss 0 ((ms.length : Int) - 1) then .ok ⟨[gateP ((ms.length : Int) - miss)], ip, ms.map mrkS⟩ else .error 3
  else .error 3
theorem patE_step {ip : Int} {ms : List Mrk} {k : Nat} {x : Mrk} (hx : ms[k]? = some x) (h : mrkE ip (ms.take k) x = 0) : patE ip (ms.take k) (ms.drop k) = patE ip (ms.take (k + 1)) (ms.drop (k + 1)) := by
  rw [drop_get hx, patE, if_neg (by simpa using h), List.take_add_one, hx]; rfl
theorem patE_stop {ip : Int} {ms : List Mrk} {k : Nat} {x : Mrk} (hx : ms[k]? = some x) (h : mrkE ip (ms.take k) x ≠ 0) : patE ip (ms.take k) (ms.drop k) = mrkE ip (ms.take k) x := by
  rw [drop_get hx, patE, if_pos h]
theorem patE_end {ip : Int} {ms : List Mrk} {k : Nat} (h : ms.length ≤ k) : patE ip (ms.take k) (ms.drop k) = 0 := by
  rw [List.drop_eq_nil_of_le h, patE]
theorem mrkE_4 {ip : Int} {pre : List Mrk} {m : Mrk} (h : ¬ wi m.inp 0 (ip - 1)) : mrkE ip pre m = 4 := by unfold mrkE; rw [if_neg h]
theorem mrkE_3 {ip : Int} {pre : List Mrk} {m : Mrk} (h : wi m.inp 0 (ip - 1)) (h2 : ¬ wi m.off 0 15) : mrkE ip pre m = 3 := by unfold mrkE; rw [if_pos h, if_neg h2]
theorem mrkE_5 {ip : Int} {pre : List Mrk} {m : Mrk} (h : wi m.inp 0 (ip - 1)) (h2 : wi m.off 0 15) (h3 : m ∈ pre) : mrkE ip pre m = 5 := by unfold mrkE; rw [if_pos h, if_pos h2, if_pos h3]
theorem mrkE_0 {ip : Int} {pre : List Mrk} {m : Mrk} (h : wi m.inp 0 (ip - 1)) (h2 : wi m.off 0 15) (h3 : ¬ m ∈ pre) : mrkE ip pre m = 0 := by unfold mrkE; rw [if_pos h, if_pos h2, if_neg h3]
theorem notmem_step {α : Type} {xs : List α} {k : Nat} {x y : α} (hx : xs[k]? = some x) (h : ¬ y ∈ xs.take k) (hn : ¬ y = x) : ¬ y ∈ xs.take (k + 1) := by
  rw [List.take_add_one, hx]
  intro hm
  rcases List.mem_append.1 hm with hm | hm
  · exact h hm
  · exact hn (List.mem_singleton.1 hm)
theorem indexM_c (xa : Option Addr) (xc : Nat) (xs : List Mrk) (y : Mrk) (w : World) (hX : RoL w xa eMark xs) (hl : xs.length ≤ 1000000) : Calls Try.prog 93 [.slice xa xs.length xc, .agg (eMark y).toArray].toArray w fun e w' => ∃ i : Int, e = .returned (.int .i64 i) ∧ (0 ≤ i ↔ y ∈ xs) ∧ Sat w w' [] := by
  refine fstart Try.func93 rfl rfl (Sat.nil w) ?_
  refine Cd.seq ?_
  refine Cd.region ?_
  refine Ops.box [.int .i64 y.inp, .int .i64 y.off] rfl rfl ?_
  intro b1
  refine Ops.q (q_asg rfl) ?_
  refine Ops.to rfl ?_
  refine Cd.seq ?_
  refine Cd.seq ?_
  refine Cd.region ?_
  refine Ops.q (q_mv rfl) ?_
  refine Ops.q (q_len esz_73 rfl) ?_
  refine Ops.q (q_mv rfl) ?_
  refine Ops.to rfl ?_
  refine Cd.block ?_
  refine Cd.lp (σ := Nat) (fun k => k ≤ xs.length ∧ ¬ y ∈ xs.take k) (fun k => [(0, .slice xa xs.length xc), (3, .pointer (some ⟨b1, 0, none⟩)), (7, .int .i64 (xs.length : Int)), (8, .int .i64 (k : Int))]) (fun k => [blk b1 76 [.int .i64 y.inp, .int .i64 y.off]]) (fun k => xs.length - k) 0 ⟨Nat.zero_le _, by simp⟩ ⟨rfl, rfl, rfl, rfl, trivial⟩ (fun _ hs => hs) ?_
  intro k hI
  have hI1 := hI.1
  refine Cd.seq ?_
  refine Cd.region ?_
  by_cases hk : (k : Int) < (xs.length : Int)
  · refine Ops.q (q_cmp rfl rfl (c_lt hk)) ?_
    obtain ⟨x2, hx3⟩ : ∃ x, xs[k]? = some x := ⟨_, List.getElem?_eq_getElem (by omega)⟩
    obtain ⟨ab4, ao5, rfl⟩ := RoL.pos hX eMark_len hx3
    refine Ops.to rfl ?_
    refine Cd.seq ?_
    refine Cd.cond_t rfl ?_
    refine Cd.skipTo rfl ?_
    refine Cd.seq ?_
    refine Cd.block ?_
    refine Cd.seq ?_
    refine Cd.region ?_
    refine Ops.q (q_mv rfl) ?_
    refine Ops.q (q_asg rfl) ?_
    refine Ops.to rfl ?_
    refine Cd.seq ?_
    refine Cd.draw rfl (by kernel_rfl) (.cons .here .nil) ?_
    intro F6 St7 hP8 hF9 hR10
    refine Dr.q (i := 0) hP8 rfl (by kernel_rfl) (q_ldBN [.int .i64 y.inp, .int .i64 y.off] isA_76 sz_76 rfl .here rfl) ?_
    refine Dr.q (i := 1) hP8 rfl (by kernel_rfl) (q_mv rfl) ?_
    refine Dr.q (i := 2) hP8 rfl (by kernel_rfl) (q_mv rfl) ?_
    refine Dr.q (i := 3) hP8 rfl (by kernel_rfl) (q_ix (k := k) esz_73 rfl rfl (by omega)) ?_
    refine Dr.q (i := 4) hP8 rfl (by kernel_rfl) (q_ldRN [.int .i64 x2.inp, .int .i64 x2.off] isA_76 sz_76 rfl (fun j u hu => hX.at eMark_len hx3 hu)) ?_
    by_cases hc11 : y = x2
    · refine Dr.q (i := 5) hP8 rfl (by kernel_rfl) (q_eqT [y.inp, y.off] [x2.inp, x2.off] intS_76 rfl rfl rfl rfl rfl (by rw [hc11])) ?_
      refine Dr.tail 6 (by kernel_rfl) ?_
      refine Ops.sat ?_ (fun _ hs => hR10 .here hs)
      refine Ops.to rfl ?_
      refine Cd.cond_t rfl ?_
      refine Cd.seq ?_
      refine Cd.region ?_
      refine Ops.q (q_mv rfl) ?_
      refine Ops.q (q_asg rfl) ?_
      refine Ops.to rfl ?_
      refine Cd.rt (fn := Try.f93) [.int .i64 (k : Int)] (by with_reducible repeat (first | exact rq_here | apply rq_then | apply rq_block)) rfl ⟨rfl, trivial⟩ ?_
      intro w' hs'
      exact ⟨(k : Int), rfl, ⟨fun _ => hc11 ▸ List.mem_iff_getElem?.2 ⟨k, hx3⟩, fun _ => by omega⟩, hs'.none⟩
    · refine Dr.q (i := 5) hP8 rfl (by kernel_rfl) (q_eqF [y.inp, y.off] [x2.inp, x2.off] intS_76 rfl rfl rfl rfl rfl (fun e => hc11 (by cases y; cases x2; simp at e; simp [e]))) ?_
      refine Dr.tail 6 (by kernel_rfl) ?_
      refine Ops.sat ?_ (fun _ hs => hR10 .here hs)
      refine Ops.to rfl ?_
      refine Cd.cond_f rfl ?_
      refine Cd.skipTo rfl ?_
      refine Cd.region ?_
      refine Ops.q (q_ar rfl rfl (a_inc (by omega))) ?_
      refine Ops.q (q_mv rfl) ?_
      refine Ops.rnd (k + 1) rfl (⟨by omega, notmem_step hx3 hI.2 hc11⟩) (by omega) ⟨rfl, rfl, rfl, rfl, trivial⟩ (fun _ hs => hs) 
  · refine Ops.q (q_cmp rfl rfl (c_nlt (by omega))) ?_
    refine Ops.to rfl ?_
    refine Cd.seq ?_
    refine Cd.cond_f rfl ?_
    refine Cd.exitTo rfl ?_
    refine Cd.seq ?_
    refine Cd.region ?_
    refine Ops.q (q_asg rfl) ?_
    refine Ops.to rfl ?_
    refine Cd.rt (fn := Try.f93) [.int .i64 (-1)] (by with_reducible repeat (first | exact rq_here | apply rq_then | apply rq_block)) rfl ⟨rfl, trivial⟩ ?_
    intro w' hs'
    exact ⟨-1, rfl, ⟨fun h => by omega, fun h => by rw [List.take_of_length_le (by omega)] at hI; exact absurd h hI.2⟩, hs'.none⟩
theorem containsM_c (xa : Option Addr) (xc : Nat) (xs : List Mrk) (y : Mrk) (w : World) (hX : RoL w xa eMark xs) (hl : xs.length ≤ 1000000) : Calls Try.prog 70 [.slice xa xs.length xc, .agg (eMark y).toArray].toArray w fun e w' => e = .returned (.bool (decide (y ∈ xs))) ∧ Sat w w' [] := by
  refine fstart Try.func70 rfl rfl (Sat.nil w) ?_
  refine Cd.seq ?_
  refine Cd.region ?_
  refine Ops.box [.int .i64 y.inp, .int .i64 y.off] rfl rfl ?_
  intro b1
  refine Ops.q (q_asg rfl) ?_
  refine Ops.to rfl ?_
  refine Cd.seq ?_
  refine Cd.region ?_
  refine Ops.q (q_mv rfl) ?_
  refine Ops.q (q_ldBN [.int .i64 y.inp, .int .i64 y.off] isA_76 sz_76 rfl .here rfl) ?_
  refine Ops.cl (α := {i : Int // 0 ≤ i ↔ y ∈ xs}) (v := fun i => .int .i64 i.1) (B := fun _ => []) en_93 rfl (fun w hs => (indexM_c _ _ xs y w (hX.later hs.below) hl).mono fun e w' h => by obtain ⟨i, h1, h2, h3⟩ := h; exact ⟨⟨i, h2⟩, h1, h3⟩) ?_
  intro i
  by_cases h2 : 0 ≤ i.1
  · refine Ops.q (q_cmp rfl rfl (c_ge h2)) ?_
    refine Ops.q (q_asg rfl) ?_
    refine Ops.to rfl ?_
    refine Cd.rt (fn := Try.f70) [.bool true] (by with_reducible repeat (first | exact rq_here | apply rq_then | apply rq_block)) rfl ⟨rfl, trivial⟩ ?_
    intro w' hs'
    exact ⟨ebool (by rw [← i.2]; simp; try omega), hs'.none⟩
  · refine Ops.q (q_cmp rfl rfl (c_nge (by omega))) ?_
    refine Ops.q (q_asg rfl) ?_
    refine Ops.to rfl ?_
    refine Cd.rt (fn := Try.f70) [.bool false] (by with_reducible repeat (first | exact rq_here | apply rq_then | apply rq_block)) rfl ⟨rfl, trivial⟩ ?_
    intro w' hs'
    exact ⟨ebool (by rw [← i.2]; simp; try omega), hs'.none⟩
theorem containsK_c (ma : Option Addr) (mc k : Nat) (ms : List Mrk) (y : Mrk) (w : World) (hM : RoL w ma eMark ms) (hl : ms.length ≤ 1000000) (hk : k ≤ ms.length) : Calls Try.prog 70 [.slice ma k mc, .agg (eMark y).toArray].toArray w fun e w' => e = .returned (.bool (decide (y ∈ ms.take k))) ∧ Sat w w' [] := by
  have h := containsM_c ma mc (ms.take k) y w (RoL.take hM k) (by rw [List.length_take]; omega)
  rwa [List.length_take, Nat.min_eq_left hk] at h
theorem pattern_c (ip : Int) (ma : Option Addr) (mc : Nat) (ms : List Mrk) (miss : Int) (w : World) (hM : RoL w ma eMark ms) (hmc : ms.length ≤ mc) : Calls Try.prog 32 [.int .i64 ip, .slice ma ms.length mc, .int .i64 miss].toArray w (RetR (patP ip ms miss) w) := by
  refine fstart Try.func32 rfl rfl (Sat.nil w) ?_
  refine Cd.seq ?_
  refine Cd.region ?_
  refine Ops.alc [.slice none 0 0, .int .i64 0, .slice none 0 0] zc_32 ?_
  intro b1
  refine Ops.q (q_asg rfl) ?_
  refine Ops.to rfl ?_
  refine Cd.seq ?_
  refine Cd.block ?_
  refine Cd.seq ?_
  refine Cd.region ?_
  refine Ops.q (q_mv rfl) ?_
  by_cases h2 : wi ip 1 256
  · refine Ops.cp en_57 rfl (fun w hs => dT (in_c _ _ _ w) h2) ?_
    refine Ops.q (q_not rfl) ?_
    refine Ops.q (q_asg rfl) ?_
    refine Ops.to rfl ?_
    refine Cd.cond_f rfl ?_
    refine Cd.seq ?_
    refine Cd.region ?_
    have hip := h2
    unfold wi at hip
    refine Ops.q (q_mv rfl) ?_
    refine Ops.q (q_len esz_73 rfl) ?_
    by_cases h3 : 64 < (ms.length : Int)
    · refine Ops.q (q_cmp rfl rfl (c_gt h3)) ?_
      refine Ops.q (q_asg rfl) ?_
      refine Ops.to rfl ?_
      refine Cd.cond_t rfl ?_
      refine Cd.seq ?_
      refine Cd.region ?_
      refine Ops.q (q_bld [.slice none 0 0, .int .i64 0, .slice none 0 0] pls_32 zc_32 rfl rfl) ?_
      refine Ops.stB [.slice none 0 0, .int .i64 0, .slice none 0 0] [.slice none 0 0, .int .i64 0, .slice none 0 0] sz_32 rfl rfl rfl (one rfl) .here rfl rfl ?_
      refine Ops.q (q_asg rfl) ?_
      refine Ops.to rfl ?_
      refine Cd.rt (fn := Try.f32) [.agg [.slice none 0 0, .int .i64 0, .slice none 0 0].toArray, .int .i64 9] (by with_reducible repeat (first | exact rq_here | apply rq_then | apply rq_block)) rfl ⟨⟨_, _, rfl, fun _ hs => run_loadN isA_32 sz_32 (fun o u hu => Sat.atB .here (by rw [Nat.zero_add]; exact hu) hs)⟩, rfl, trivial⟩ ?_
      intro w' hs'
      rw [show patP ip ms miss = .error 9 by unfold patP; rw [if_pos h2, if_pos (by omega)]]
      exact ⟨rfl, hs'.none⟩
    · refine Ops.q (q_cmp rfl rfl (c_ngt (by omega))) ?_
      refine Ops.q (q_asg rfl) ?_
      refine Ops.to rfl ?_
      refine Cd.cond_f rfl ?_
      refine Cd.seq ?_
      refine Cd.region ?_
      refine Ops.q (q_mv rfl) ?_
      refine Ops.q (q_len esz_73 rfl) ?_
      by_cases h0 : (ms.length : Int) = 0
      · refine Ops.q (q_cmp rfl rfl (c_eq h0)) ?_
        refine Ops.q (q_asg rfl) ?_
        refine Ops.to rfl ?_
        refine Cd.cond_t rfl ?_
        refine Cd.seq ?_
        refine Cd.region ?_
        refine Ops.q (q_bld [.slice none 0 0, .int .i64 0, .slice none 0 0] pls_32 zc_32 rfl rfl) ?_
        refine Ops.stB [.slice none 0 0, .int .i64 0, .slice none 0 0] [.slice none 0 0, .int .i64 0, .slice none 0 0] sz_32 rfl rfl rfl (one rfl) .here rfl rfl ?_
        refine Ops.q (q_asg rfl) ?_
        refine Ops.to rfl ?_
        refine Cd.rt (fn := Try.f32) [.agg [.slice none 0 0, .int .i64 0, .slice none 0 0].toArray, .int .i64 2] (by with_reducible repeat (first | exact rq_here | apply rq_then | apply rq_block)) rfl ⟨⟨_, _, rfl, fun _ hs => run_loadN isA_32 sz_32 (fun o u hu => Sat.atB .here (by rw [Nat.zero_add]; exact hu) hs)⟩, rfl, trivial⟩ ?_
        intro w' hs'
        rw [show patP ip ms miss = .error 2 by unfold patP; rw [if_pos h2, if_neg (by omega), if_pos (by omega)]]
        exact ⟨rfl, hs'.none⟩
      · refine Ops.q (q_cmp rfl rfl (c_neq h0)) ?_
        refine Ops.q (q_asg rfl) ?_
        refine Ops.to rfl ?_
        refine Cd.cond_f rfl ?_
        refine Cd.skipTo rfl ?_
        refine Cd.seq ?_
        refine Cd.region ?_
        refine Ops.q (q_mv rfl) ?_
        refine Ops.q (q_bld [.slice none 0 0, .int .i64 ip, .slice none 0 0] pls_32 zc_32 rfl rfl) ?_
        refine Ops.q (q_bld [.slice none 0 0, .int .i64 ip, .slice none 0 0] pls_114 zc_114 rfl rfl) ?_
        refine Ops.alc [.slice none 0 0, .int .i64 0, .slice none 0 0] zc_114 ?_
        intro b4
        refine Ops.stB [.slice none 0 0, .int .i64 ip, .slice none 0 0] [.slice none 0 0, .int .i64 ip, .slice none 0 0] sz_114 rfl rfl rfl (one rfl) .here rfl rfl ?_
        refine Ops.to rfl ?_
        refine Cd.seq ?_
        refine Cd.seq ?_
        refine Cd.nilRow 126 4 ?_
        refine Cd.nilRow 116 8 ?_
        change Cd _ _ _ _ _ _ _ _ ([row none 0 116 8 (([] : List Prm).length) (([] : List Prm).flatMap ePrm), row none 0 126 4 (([] : List Syn).length) (([] : List Syn).flatMap eSyn), blk b4 114 [.slice none (([] : List Prm).length) 0, .int .i64 ip, .slice none (([] : List Syn).length) 0], blk b1 32 [.slice none 0 0, .int .i64 0, .slice none 0 0]])
        refine Cd.region ?_
        refine Ops.q (q_mv rfl) ?_
        refine Ops.q (q_len esz_73 rfl) ?_
        refine Ops.q (q_mv rfl) ?_
        refine Ops.to rfl ?_
        refine Cd.block ?_
        refine Cd.lp (σ := Nat × Option Addr × Nat) (fun s => s.1 ≤ ms.length ∧ patE ip (ms.take s.1) (ms.drop s.1) = patE ip [] ms) (fun s => [(0, .int .i64 ip), (1, .slice ma ms.length mc), (2, .int .i64 miss), (6, .pointer (some ⟨b1, 0, none⟩)), (8, .pointer (some ⟨b4, 0, none⟩)), (29, .slice ma ms.length mc), (30, .int .i64 (ms.length : Int)), (31, .int .i64 (s.1 : Int))]) (fun s => [blk b4 114 [.slice none (([] : List Prm).length) 0, .int .i64 ip, .slice s.2.1 ((([] : List Syn) ++ (ms.take s.1).map mrkS).length) s.2.2], row none 0 116 8 (([] : List Prm).length) (([] : List Prm).flatMap ePrm), row s.2.1 s.2.2 126 4 ((([] : List Syn) ++ (ms.take s.1).map mrkS).length) ((([] : List Syn) ++ (ms.take s.1).map mrkS).flatMap eSyn), blk b1 32 [.slice none 0 0, .int .i64 0, .slice none 0 0]]) (fun s => ms.length - s.1) (0, none, 0) ⟨Nat.zero_le _, rfl⟩ ⟨rfl, rfl, rfl, rfl, rfl, rfl, rfl, rfl, trivial⟩ (fun _ hs => by have h1 := ((((hs.pull (.there (.there (.there .here)))).pull (.there (.there .here))).pull (.there (.there .here))).pull (.there (.there (.there .here)))); exact h1) ?_
        rintro ⟨k, qa, qc⟩ hI
        dsimp only at hI
        change Cd _ _ _ _ _ _ _ [(0, .int .i64 ip), (1, .slice ma ms.length mc), (2, .int .i64 miss), (6, .pointer (some ⟨b1, 0, none⟩)), (8, .pointer (some ⟨b4, 0, none⟩)), (29, .slice ma ms.length mc), (30, .int .i64 (ms.length : Int)), (31, .int .i64 (k : Int))] ([blk b4 114 [.slice none (([] : List Prm).length) 0, .int .i64 ip, .slice qa ((([] : List Syn) ++ (ms.take k).map mrkS).length) qc], row none 0 116 8 (([] : List Prm).length) (([] : List Prm).flatMap ePrm), row qa qc 126 4 ((([] : List Syn) ++ (ms.take k).map mrkS).length) ((([] : List Syn) ++ (ms.take k).map mrkS).flatMap eSyn), blk b1 32 [.slice none 0 0, .int .i64 0, .slice none 0 0]])
        have hI1 := hI.1
        refine Cd.seq ?_
        refine Cd.region ?_
        by_cases hk : (k : Int) < (ms.length : Int)
        · refine Ops.q (q_cmp rfl rfl (c_lt hk)) ?_
          obtain ⟨x5, hx6⟩ : ∃ x, ms[k]? = some x := ⟨_, List.getElem?_eq_getElem (by omega)⟩
          obtain ⟨ab7, ao8, rfl⟩ := RoL.pos hM eMark_len hx6
          refine Ops.to rfl ?_
          refine Cd.seq ?_
          refine Cd.cond_t rfl ?_
          refine Cd.skipTo rfl ?_
          refine Cd.seq ?_
          refine Cd.block ?_
          refine Cd.seq ?_
          refine Cd.region ?_
          refine Ops.q (q_mv rfl) ?_
          refine Ops.q (q_ix (k := k) esz_73 rfl rfl (by omega)) ?_
          refine Ops.q (q_ldRN [.int .i64 x5.inp, .int .i64 x5.off] isA_76 sz_76 rfl (fun j u hu => hM.at eMark_len hx6 hu)) ?_
          refine Ops.alc [.int .i64 0, .int .i64 0] zc_76 ?_
          intro b9
          refine Ops.q (q_asg rfl) ?_
          refine Ops.stB [.int .i64 x5.inp, .int .i64 x5.off] [.int .i64 x5.inp, .int .i64 x5.off] sz_76 rfl rfl rfl (one rfl) .here rfl rfl ?_
          refine Ops.to rfl ?_
          refine Cd.seq ?_
          refine Cd.block ?_
          refine Cd.seq ?_
          refine Cd.region ?_
          refine Ops.q (q_fa fo_76_0 rfl) ?_
          refine Ops.q (q_ldB isA_3 rfl .here rfl) ?_
          refine Ops.q (q_mv rfl) ?_
          refine Ops.q (q_ar (v := ip - 1) rfl rfl (a_sub (by omega))) ?_
          by_cases h10 : wi x5.inp 0 (ip - 1)
          · refine Ops.cp en_57 rfl (fun w hs => dT (in_c _ _ _ w) h10) ?_
            refine Ops.q (q_not rfl) ?_
            refine Ops.q (q_asg rfl) ?_
            refine Ops.to rfl ?_
            refine Cd.cond_f rfl ?_
            refine Cd.seq ?_
            refine Cd.region ?_
            refine Ops.q (q_fa fo_76_1 rfl) ?_
            refine Ops.q (q_ldB isA_3 rfl .here rfl) ?_
            by_cases h11 : wi x5.off 0 15
            · refine Ops.cp en_57 rfl (fun w hs => dT (in_c _ _ _ w) h11) ?_
              refine Ops.q (q_not rfl) ?_
              refine Ops.q (q_asg rfl) ?_
              refine Ops.to rfl ?_
              refine Cd.cond_f rfl ?_
              refine Cd.seq ?_
              refine Cd.draw rfl (by kernel_rfl) (.cons .here .nil) ?_
              intro F12 St13 hP14 hF15 hR16
              refine Dr.q (i := 0) hP14 rfl (by kernel_rfl) (q_mv rfl) ?_
              refine Dr.q (i := 1) hP14 rfl (by kernel_rfl) (q_mv rfl) ?_
              refine Dr.q (i := 2) hP14 rfl (by kernel_rfl) (q_cutHP (k := k) el_73 sz_76 rfl rfl (by omega)) ?_
              refine Dr.q (i := 3) hP14 rfl (by kernel_rfl) (q_ldBN [.int .i64 x5.inp, .int .i64 x5.off] isA_76 sz_76 rfl .here rfl) ?_
              refine Dr.e (i := 4) rfl (by kernel_rfl) ?_
              by_cases h17 : x5 ∈ ms.take k
              · refine Ops.cp en_70 rfl (fun w hs => dT (containsK_c _ _ k ms x5 w (hM.later hs.below) (by omega) (by omega)) h17) ?_
                refine Dr.back (fun _ hs => hF15 .here hs) ?_
                refine Dr.q (i := 5) hP14 rfl (by kernel_rfl) (q_asg rfl) ?_
                refine Dr.tail 6 (by kernel_rfl) ?_
                refine Ops.sat ?_ (fun _ hs => hR16 .here hs)
                refine Ops.to rfl ?_
                refine Cd.cond_t rfl ?_
                refine Cd.seq ?_
                refine Cd.region ?_
                refine Ops.q (q_bld [.slice none 0 0, .int .i64 0, .slice none 0 0] pls_32 zc_32 rfl rfl) ?_
                refine Ops.stB [.slice none 0 0, .int .i64 0, .slice none 0 0] [.slice none 0 0, .int .i64 0, .slice none 0 0] sz_32 rfl rfl rfl (one rfl) (.there (.there (.there (.there .here)))) rfl rfl ?_
                refine Ops.q (q_asg rfl) ?_
                refine Ops.to rfl ?_
                refine Cd.rt (fn := Try.f32) [.agg [.slice none 0 0, .int .i64 0, .slice none 0 0].toArray, .int .i64 5] (by with_reducible repeat (first | exact rq_here | apply rq_then | apply rq_block)) rfl ⟨⟨_, _, rfl, fun _ hs => run_loadN isA_32 sz_32 (fun o u hu => Sat.atB (.there (.there (.there (.there .here)))) (by rw [Nat.zero_add]; exact hu) hs)⟩, rfl, trivial⟩ ?_
                intro w' hs'
                have h8 : mrkE ip (ms.take k) x5 = 5 := mrkE_5 h10 h11 h17
                have h9 : patE ip [] ms = 5 := by rw [← hI.2, patE_stop hx6 (by omega), h8]
                rw [show patP ip ms miss = .error 5 by unfold patP; rw [if_pos h2, if_neg (by omega), if_neg (by omega), h9, if_pos (by decide)]]
                exact ⟨rfl, hs'.none⟩
              · refine Ops.cp en_70 rfl (fun w hs => dF (containsK_c _ _ k ms x5 w (hM.later hs.below) (by omega) (by omega)) h17) ?_
                refine Dr.back (fun _ hs => hF15 .here hs) ?_
                refine Dr.q (i := 5) hP14 rfl (by kernel_rfl) (q_asg rfl) ?_
                refine Dr.tail 6 (by kernel_rfl) ?_
                refine Ops.sat ?_ (fun _ hs => hR16 .here hs)
                refine Ops.to rfl ?_
                refine Cd.cond_f rfl ?_
                refine Cd.skipTo rfl ?_
                refine Cd.region ?_
                have hti := h10
                have hto := h11
                unfold wi at hti hto
                refine Ops.q (q_fa fo_76_0 rfl) ?_
                refine Ops.q (q_ldB isA_3 rfl .here rfl) ?_
                refine Ops.q (q_fa fo_76_1 rfl) ?_
                refine Ops.q (q_ldB isA_3 rfl .here rfl) ?_
                refine Ops.q (q_ar (v := 16 - x5.off) rfl rfl (a_sub (by omega))) ?_
                refine Ops.cm (α := Option Addr × Nat) (v := fun _ => .tuple #[]) (A' := fun p => [blk b4 114 [.slice none (([] : List Prm).length) 0, .int .i64 ip, .slice p.1 (((([] : List Syn) ++ (ms.take k).map mrkS) ++ [(⟨-1 - x5.inp, 0, 1, 16 - x5.off⟩ : Syn)]).length) p.2], row none 0 116 8 (([] : List Prm).length) (([] : List Prm).flatMap ePrm), row p.1 p.2 126 4 (((([] : List Syn) ++ (ms.take k).map mrkS) ++ [(⟨-1 - x5.inp, 0, 1, 16 - x5.off⟩ : Syn)]).length) (((([] : List Syn) ++ (ms.take k).map mrkS) ++ [(⟨-1 - x5.inp, 0, 1, 16 - x5.off⟩ : Syn)]).flatMap eSyn), blk b9 76 [.int .i64 x5.inp, .int .i64 x5.off], blk b1 32 [.slice none 0 0, .int .i64 0, .slice none 0 0]]) en_51 rfl (fun w hs => feed_c _ _ _ _ _ ([] : List Prm) _ (([] : List Syn) ++ (ms.take k).map mrkS) x5.inp 0 1 (16 - x5.off) _ w _ (by simp only [List.length_append, List.length_map, List.length_take, List.length_nil]; omega) (by omega) ((((((hs.pull (.there (.there (.there (.there .here))))).pull (.there .here)).pull (.there (.there (.there (.there .here))))).pull (.there (.there (.there (.there .here))))).pull (.there (.there (.there (.there .here))))))) ?_
                rintro ⟨a18, c19⟩
                refine Ops.to rfl ?_
                refine Cd.region ?_
                refine Ops.q (q_ar rfl rfl (a_inc (by omega))) ?_
                refine Ops.q (q_mv rfl) ?_
                refine Ops.rnd ((k + 1, a18, c19)) rfl (by dsimp only; exact (⟨by omega, by rw [← hI.2]; exact (patE_step hx6 (mrkE_0 h10 h11 h17)).symm⟩)) (by dsimp only; omega) ⟨rfl, rfl, rfl, rfl, rfl, rfl, rfl, rfl, trivial⟩ (fun _ hs => by have h1 := (((((hs.pull (.there (.there (.there (.there .here))))).pull (.there (.there (.there .here)))).pull (.there (.there (.there .here)))).pull (.there (.there (.there .here)))).pull (.there (.there (.there (.there .here))))).drop; dsimp only; rw [mapT _ hx6, ← List.append_assoc]; exact h1) 
            · refine Ops.cp en_57 rfl (fun w hs => dF (in_c _ _ _ w) h11) ?_
              refine Ops.q (q_not rfl) ?_
              refine Ops.q (q_asg rfl) ?_
              refine Ops.to rfl ?_
              refine Cd.cond_t rfl ?_
              refine Cd.seq ?_
              refine Cd.region ?_
              refine Ops.q (q_bld [.slice none 0 0, .int .i64 0, .slice none 0 0] pls_32 zc_32 rfl rfl) ?_
              refine Ops.stB [.slice none 0 0, .int .i64 0, .slice none 0 0] [.slice none 0 0, .int .i64 0, .slice none 0 0] sz_32 rfl rfl rfl (one rfl) (.there (.there (.there (.there .here)))) rfl rfl ?_
              refine Ops.q (q_asg rfl) ?_
              refine Ops.to rfl ?_
              refine Cd.rt (fn := Try.f32) [.agg [.slice none 0 0, .int .i64 0, .slice none 0 0].toArray, .int .i64 3] (by with_reducible repeat (first | exact rq_here | apply rq_then | apply rq_block)) rfl ⟨⟨_, _, rfl, fun _ hs => run_loadN isA_32 sz_32 (fun o u hu => Sat.atB (.there (.there (.there (.there .here)))) (by rw [Nat.zero_add]; exact hu) hs)⟩, rfl, trivial⟩ ?_
              intro w' hs'
              have h8 : mrkE ip (ms.take k) x5 = 3 := mrkE_3 h10 h11
              have h9 : patE ip [] ms = 3 := by rw [← hI.2, patE_stop hx6 (by omega), h8]
              rw [show patP ip ms miss = .error 3 by unfold patP; rw [if_pos h2, if_neg (by omega), if_neg (by omega), h9, if_pos (by decide)]]
              exact ⟨rfl, hs'.none⟩
          · refine Ops.cp en_57 rfl (fun w hs => dF (in_c _ _ _ w) h10) ?_
            refine Ops.q (q_not rfl) ?_
            refine Ops.q (q_asg rfl) ?_
            refine Ops.to rfl ?_
            refine Cd.cond_t rfl ?_
            refine Cd.seq ?_
            refine Cd.region ?_
            refine Ops.q (q_bld [.slice none 0 0, .int .i64 0, .slice none 0 0] pls_32 zc_32 rfl rfl) ?_
            refine Ops.stB [.slice none 0 0, .int .i64 0, .slice none 0 0] [.slice none 0 0, .int .i64 0, .slice none 0 0] sz_32 rfl rfl rfl (one rfl) (.there (.there (.there (.there .here)))) rfl rfl ?_
            refine Ops.q (q_asg rfl) ?_
            refine Ops.to rfl ?_
            refine Cd.rt (fn := Try.f32) [.agg [.slice none 0 0, .int .i64 0, .slice none 0 0].toArray, .int .i64 4] (by with_reducible repeat (first | exact rq_here | apply rq_then | apply rq_block)) rfl ⟨⟨_, _, rfl, fun _ hs => run_loadN isA_32 sz_32 (fun o u hu => Sat.atB (.there (.there (.there (.there .here)))) (by rw [Nat.zero_add]; exact hu) hs)⟩, rfl, trivial⟩ ?_
            intro w' hs'
            have h8 : mrkE ip (ms.take k) x5 = 4 := mrkE_4 h10
            have h9 : patE ip [] ms = 4 := by rw [← hI.2, patE_stop hx6 (by omega), h8]
            rw [show patP ip ms miss = .error 4 by unfold patP; rw [if_pos h2, if_neg (by omega), if_neg (by omega), h9, if_pos (by decide)]]
            exact ⟨rfl, hs'.none⟩
        · refine Ops.q (q_cmp rfl rfl (c_nlt (by omega))) ?_
          refine Ops.to rfl ?_
          refine Cd.seq ?_
          refine Cd.cond_f rfl ?_
          refine Cd.exitTo rfl ?_
          refine Cd.seq ?_
          refine Cd.seq ?_
          refine Cd.region ?_
          refine Ops.q (q_mv rfl) ?_
          refine Ops.q (q_mv rfl) ?_
          refine Ops.q (q_len esz_73 rfl) ?_
          refine Ops.q (q_ar (v := (ms.length : Int) - 1) rfl rfl (a_sub (by omega))) ?_
          by_cases h20 : wi miss 0 ((ms.length : Int) - 1)
          · refine Ops.cp en_57 rfl (fun w hs => dT (in_c _ _ _ w) h20) ?_
            refine Ops.q (q_not rfl) ?_
            refine Ops.to rfl ?_
            refine Cd.cond_f rfl ?_
            refine Cd.skipTo rfl ?_
            refine Cd.seq ?_
            refine Cd.region ?_
            have hmi := h20
            unfold wi at hmi
            refine Ops.cp en_48 rfl (fun w hs => gate_c w) ?_
            refine Ops.cl (α := Nat × Nat) (v := fun x => .func (.func 86) #[] #[.pointer (some ⟨x.1, 0, none⟩), .pointer (some ⟨x.2, 0, none⟩)]) (B := fun x => [blk x.1 116 (ePrm (gateP 0)), blk x.2 161 [.pointer (some ⟨b4, 0, none⟩)]]) en_49 rfl (fun w hs => grow_c b4 (gateP 0) w) ?_
            rintro ⟨pb21, bb22⟩
            refine Ops.q (q_mv rfl) ?_
            refine Ops.q (q_len esz_73 rfl) ?_
            refine Ops.q (q_mv rfl) ?_
            refine Ops.q (q_ar (v := (ms.length : Int) - miss) rfl rfl (a_sub (by omega))) ?_
            refine Ops.lit [.int .i64 ((ms.length : Int) - miss)] el_26 zsb_3 rfl rfl ⟨by decide, by decide⟩ rfl ?_
            intro b23
            refine Ops.cv (α := Option Addr × Nat) (k := 86) (first := []) (caps := [.pointer (some ⟨pb21, 0, none⟩), .pointer (some ⟨bb22, 0, none⟩)]) (vs := [.slice (some ⟨b23, 0, none⟩) ([((ms.length : Int) - miss)].length) 1]) (v := fun _ => .tuple #[]) (A' := fun p => [blk b4 114 [.slice p.1 ((([] : List Prm) ++ [((ms.length : Int) - miss)].map (setTh (gateP 0))).length) p.2, .int .i64 ip, .slice qa ((([] : List Syn) ++ (ms.take k).map mrkS).length) qc], row p.1 p.2 116 8 ((([] : List Prm) ++ [((ms.length : Int) - miss)].map (setTh (gateP 0))).length) ((([] : List Prm) ++ [((ms.length : Int) - miss)].map (setTh (gateP 0))).flatMap ePrm), row qa qc 126 4 ((([] : List Syn) ++ (ms.take k).map mrkS).length) ((([] : List Syn) ++ (ms.take k).map mrkS).flatMap eSyn), blk pb21 116 (ePrm (gateP 0)), blk bb22 161 [.pointer (some ⟨b4, 0, none⟩)], row (some ⟨b23, 0, none⟩) 1 3 1 ([((ms.length : Int) - miss)].length) ([((ms.length : Int) - miss)].flatMap eInt), blk b1 32 [.slice none 0 0, .int .i64 0, .slice none 0 0]]) en_86 rfl rfl (fun w hs => grown_c b4 _ _ _ _ ([] : List Prm) _ (([] : List Syn) ++ (ms.take k).map mrkS) pb21 bb22 _ _ [((ms.length : Int) - miss)] _ _ w _ (by simp only [List.length_cons, List.length_nil]; omega) ((((((((hs.pull (.there (.there (.there (.there (.there (.there .here))))))).pull (.there .here)).pull (.there (.there (.there .here)))).pull (.there (.there (.there .here)))).pull (.there (.there (.there (.there (.there (.there .here))))))).pull (.there (.there (.there (.there (.there (.there .here))))))).pull (.there (.there (.there (.there (.there (.there .here))))))))) ?_
            rintro ⟨a24, c25⟩
            refine Ops.to rfl ?_
            refine Cd.seq ?_
            refine Cd.region ?_
            refine Ops.q (q_fa fo_114_0 rfl) ?_
            refine Ops.q (q_ldBN [.slice a24 ((([] : List Prm) ++ [((ms.length : Int) - miss)].map (setTh (gateP 0))).length) c25, .int .i64 ip, .slice qa ((([] : List Syn) ++ (ms.take k).map mrkS).length) qc] isA_32 sz_32 rfl .here rfl) ?_
            refine Ops.stB [.slice a24 ((([] : List Prm) ++ [((ms.length : Int) - miss)].map (setTh (gateP 0))).length) c25, .int .i64 ip, .slice qa ((([] : List Syn) ++ (ms.take k).map mrkS).length) qc] [.slice a24 ((([] : List Prm) ++ [((ms.length : Int) - miss)].map (setTh (gateP 0))).length) c25, .int .i64 ip, .slice qa ((([] : List Syn) ++ (ms.take k).map mrkS).length) qc] sz_32 rfl rfl rfl (one rfl) (.there (.there (.there (.there (.there (.there .here)))))) rfl rfl ?_
            refine Ops.q (q_asg rfl) ?_
            refine Ops.to rfl ?_
            refine Cd.rt (fn := Try.f32) [.agg [.slice a24 ((([] : List Prm) ++ [((ms.length : Int) - miss)].map (setTh (gateP 0))).length) c25, .int .i64 ip, .slice qa ((([] : List Syn) ++ (ms.take k).map mrkS).length) qc].toArray, .int .i64 0] (by with_reducible repeat (first | exact rq_here | apply rq_then | apply rq_block)) rfl ⟨⟨_, _, rfl, fun _ hs => run_loadN isA_32 sz_32 (fun o u hu => Sat.atB (.there (.there (.there (.there (.there (.there .here)))))) (by rw [Nat.zero_add]; exact hu) hs)⟩, rfl, trivial⟩ ?_
            intro w' hs'
            have h9 : patE ip [] ms = 0 := by rw [← hI.2, patE_end (by omega)]
            have hP : patP ip ms miss = .ok ⟨(([] : List Prm) ++ [((ms.length : Int) - miss)].map (setTh (gateP 0))), ip, (([] : List Syn) ++ ms.map mrkS)⟩ := by unfold patP; rw [if_pos h2, if_neg (by omega), if_neg (by omega), h9, if_neg (by decide), if_pos h20]; rfl
            rw [List.take_of_length_le (show ms.length ≤ k by omega)] at hs'
            rw [hP]
            exact ⟨(a24, c25), (qa, qc), by rw [List.take_of_length_le (show ms.length ≤ k by omega)]; rfl, (((((((hs'.pull (.there (.there .here))).pull (.there (.there .here))).pull (.there (.there .here))).drop.pull (.there (.there .here))).drop.pull (.there (.there .here))).drop.pull (.there (.there .here))).drop.pull (.there (.there .here))).drop⟩
          · refine Ops.cp en_57 rfl (fun w hs => dF (in_c _ _ _ w) h20) ?_
            refine Ops.q (q_not rfl) ?_
            refine Ops.to rfl ?_
            refine Cd.cond_t rfl ?_
            refine Cd.seq ?_
            refine Cd.region ?_
            refine Ops.q (q_bld [.slice none 0 0, .int .i64 0, .slice none 0 0] pls_32 zc_32 rfl rfl) ?_
            refine Ops.stB [.slice none 0 0, .int .i64 0, .slice none 0 0] [.slice none 0 0, .int .i64 0, .slice none 0 0] sz_32 rfl rfl rfl (one rfl) (.there (.there (.there .here))) rfl rfl ?_
            refine Ops.q (q_asg rfl) ?_
            refine Ops.to rfl ?_
            refine Cd.rt (fn := Try.f32) [.agg [.slice none 0 0, .int .i64 0, .slice none 0 0].toArray, .int .i64 3] (by with_reducible repeat (first | exact rq_here | apply rq_then | apply rq_block)) rfl ⟨⟨_, _, rfl, fun _ hs => run_loadN isA_32 sz_32 (fun o u hu => Sat.atB (.there (.there (.there .here))) (by rw [Nat.zero_add]; exact hu) hs)⟩, rfl, trivial⟩ ?_
            intro w' hs'
            have h9 : patE ip [] ms = 0 := by rw [← hI.2, patE_end (by omega)]
            rw [show patP ip ms miss = .error 3 by unfold patP; rw [if_pos h2, if_neg (by omega), if_neg (by omega), h9, if_neg (by decide), if_neg h20]]
            exact ⟨rfl, hs'.none⟩
  · refine Ops.cp en_57 rfl (fun w hs => dF (in_c _ _ _ w) h2) ?_
    refine Ops.q (q_not rfl) ?_
    refine Ops.q (q_asg rfl) ?_
    refine Ops.to rfl ?_
    refine Cd.cond_t rfl ?_
    refine Cd.seq ?_
    refine Cd.region ?_
    refine Ops.q (q_bld [.slice none 0 0, .int .i64 0, .slice none 0 0] pls_32 zc_32 rfl rfl) ?_
    refine Ops.stB [.slice none 0 0, .int .i64 0, .slice none 0 0] [.slice none 0 0, .int .i64 0, .slice none 0 0] sz_32 rfl rfl rfl (one rfl) .here rfl rfl ?_
    refine Ops.q (q_asg rfl) ?_
    refine Ops.to rfl ?_
    refine Cd.rt (fn := Try.f32) [.agg [.slice none 0 0, .int .i64 0, .slice none 0 0].toArray, .int .i64 3] (by with_reducible repeat (first | exact rq_here | apply rq_then | apply rq_block)) rfl ⟨⟨_, _, rfl, fun _ hs => run_loadN isA_32 sz_32 (fun o u hu => Sat.atB .here (by rw [Nat.zero_add]; exact hu) hs)⟩, rfl, trivial⟩ ?_
    intro w' hs'
    rw [show patP ip ms miss = .error 3 by unfold patP; rw [if_neg h2]]
    exact ⟨rfl, hs'.none⟩
end Go.Proofs.Ytilcdghliigngaa
namespace Go.Proofs.YtilcdghliigngaaGl
set_option linter.unusedVariables false
set_option linter.unusedSimpArgs false
open Go.RowKit
section
variable {P : Program} {r : Option Nat} {ops : Array Oper} {Q : Exit → Act → World → Prop} {w0 : World} {n : Nat} {D : List Deferred} {rest : List Oper} {L : Env} {A : List Atom}
variable {t : Nat} {ty : TypeId} {pos : String} {af : Array Edge} {g : Option (Nat × Bool)}
theorem sat_ext {w : World} {b cap sz m k : Nat} {E : TypeId} {cs : List Value} (h : Sat w0 w (row (some ⟨b, 0, none⟩) cap E sz m cs :: A)) (hk : m + k ≤ cap) :
    ∃ xs : List Value, xs.length = k * sz ∧ Sat w0 w (row (some ⟨b, 0, none⟩) cap E sz (m + k) (cs ++ xs) :: A) := by
  obtain ⟨S, hS, _, hgo⟩ := h.step
  obtain ⟨⟨hlen, hown⟩, hSb⟩ := hS
  rcases hown with ⟨h0, _⟩ | ⟨b', cap', cur, hv0, _, hh, h2, h3, h4, h5⟩
  · cases h0
  · cases hv0
    have hsz : (m + k) * sz ≤ cur.size := by rw [h4]; exact Nat.mul_le_mul_right _ hk
    refine ⟨(cur.toList.drop (m * sz)).take (k * sz), ?_, ?_⟩
    · rw [List.length_take, List.length_drop, Array.length_toList]
      rw [Nat.add_mul] at hsz; omega
    · refine hgo (S' := fun q => (Value.slice (some ⟨b, 0, none⟩) (m + k) cap).ownBlock = some q) ⟨⟨?_, .inr ⟨b, cap, cur, rfl, Nat.zero_le _, hh, hk, h3, h4, ?_⟩⟩, fun _ => Iff.rfl⟩ (fun q hq => .inl ((hSb q).2 (by simpa [Value.ownBlock] using hq))) rfl rfl rfl (Nat.le_refl _) (fun _ _ _ => rfl)
      · rw [List.length_append, hlen, List.length_take, List.length_drop, Array.length_toList]
        rw [Nat.add_mul] at hsz ⊢; omega
      · rw [← h5, Nat.add_mul, List.take_add]
theorem Ops.ext {b cap sz m k : Nat} {E : TypeId} {cs : List Value} {R : List Atom} (hp : Pull A (row (some ⟨b, 0, none⟩) cap E sz m cs) R) (hk : m + k ≤ cap)
    (h : ∀ xs, xs.length = k * sz → Ops P r ops Q w0 n D rest L (row (some ⟨b, 0, none⟩) cap E sz (m + k) (cs ++ xs) :: R)) : Ops P r ops Q w0 n D rest L A := fun ac w hkn hs => by
  obtain ⟨xs, hl, hs'⟩ := sat_ext (hs.pull hp) hk
  exact h xs hl ac w hkn hs'
theorem Ops.appzG {x y : Operand} {T N E : TypeId} {kn : IntKind} {zs olds : List Value} {sz by_ m k cap : Nat} {a : Option Addr} (hT : elT P T = some E) (hN : iK P N = some kn) (hE : zsb P E = some (zs, sz, by_)) (hs0 : 0 < sz) (hx : ev L x = some (.slice a m cap)) (hy : ev L y = some (.int .i64 (k : Int)))
    (hk : 0 < k) (hc : cap < m + k) (ho : ∀ w, Sat w0 w A → Ro w a olds) (hol : olds.length = m * sz) (hb : (m + k) * by_ ≤ 140737488355328) (hb' : m + k ≤ 70368744177664)
    (h : ∀ b cap', m + k ≤ cap' → Ops P r ops Q w0 n D rest ((t, .slice (some ⟨b, 0, none⟩) (m + k) cap') :: L) (row (some ⟨b, 0, none⟩) cap' E sz (m + k) (olds ++ rep k zs) :: A))
    (hg : gd ops L ⟨some t, .call ⟨.builtin .append, #[x, y], #[T, N]⟩, ty, pos, af, g⟩ = some true := by rfl) (ht : Nat.blt t n = true := by rfl) :
    Ops P r ops Q w0 n D (⟨some t, .call ⟨.builtin .append, #[x, y], #[T, N]⟩, ty, pos, af, g⟩ :: rest) L A :=
  Ops.val (α := {p : Nat × Nat // m + k ≤ p.2}) (v := fun p => .slice (some ⟨p.1.1, 0, none⟩) (m + k) p.1.2) (A' := fun p => row (some ⟨p.1.1, 0, none⟩) p.1.2 E sz (m + k) (olds ++ rep k zs) :: A) hg rfl ht rfl (fun ac w hkn hs => by
    obtain ⟨i, z, hi, hz, hsz, hby, hzs, hzl⟩ := zsb_u hE
    have hro := ho w.drew hs.drew
    have hf := run_first (P := P) (w := w.drew) (sl := m) (sc := cap) hro hol
    have hkb : k * by_ ≤ 281474976710656 := Nat.le_trans (Nat.mul_le_mul_right by_ (show k ≤ m + k by omega)) (by omega)
    have hr := Lib.run_append_grow_zeros (P := P) w T N ty E i z .i64 kn (elT_u hT) (iK_u hN) hi hz a m cap olds (by rw [hsz]; exact hf) k hk (by rw [hsz]; exact hs0) hc (by omega) (by rw [hby]; exact hkb)
      (by rw [hby]; exact growslice_fits hc hb)
    have hge : m + k ≤ grownCap w (m + k) cap E := grownCap_ge _ _ _ _
    refine ⟨⟨(w.heap.size, grownCap w (m + k) cap E), hge⟩, w.drew.alloc (.cells (olds.toArray ++ Builtin.zeroCells z.cells k ++ Builtin.zeroCells z.cells (grownCap w (m + k) cap E - (m + k))) E), by simp only [execOp, resolve, invoke, builtin, hkn.ev hx, hkn.ev hy, List.map_toArray, List.map_cons, List.map_nil, Sem.run_bind, Sem.run_pure, Result.andThen_ok, hr], ?_⟩
    have hzc : ∀ q, (Builtin.zeroCells z.cells q).toList = rep q zs := fun q => by rw [← hzl, ← rep_eq]; rfl
    have hzn : ∀ q, (Builtin.zeroCells z.cells q).size = q * sz := fun q => by rw [← Array.length_toList, hzc, rep_length, ← hzl, Array.length_toList, hzs]
    refine hs.drew.add (Below.alloc (Below.refl _ _) (Nat.le_refl _) _) (S := fun q => q = w.heap.size) ⟨⟨?_, .inr ⟨w.heap.size, _, _, rfl, Nat.zero_le _, heap_alloc_new _ _, hge, grownCap_le_maxLen _ _ _ _ (by simp only [maxLen]; omega), ?_, ?_⟩⟩, fun q => by simp [Value.ownBlock, eq_comm]⟩ (fun q hq => by subst hq; exact Nat.le_refl _)
    · rw [List.length_append, hol, rep_length, ← hzl, Array.length_toList, hzs, Nat.add_mul]
    · simp only [Array.size_append, List.size_toArray, hzn, hol]
      rw [← Nat.add_mul, ← Nat.add_mul]; congr 1; omega
    · have e : (olds ++ rep k zs).length = (m + k) * sz := by rw [List.length_append, hol, rep_length, ← hzl, Array.length_toList, hzs, Nat.add_mul]
      simp only [Array.toList_append, List.toList_toArray, hzc]
      rw [← e, List.take_left]) (fun p => h p.1.1 p.1.2 p.2)
theorem Ops.appzQ {x y : Operand} {T N E : TypeId} {kn : IntKind} {zs olds : List Value} {sz by_ m k q cap : Nat} {a : Option Addr} (hT : elT P T = some E) (hN : iK P N = some kn) (hE : zsb P E = some (zs, sz, by_)) (hs0 : 0 < sz) (hx : ev L x = some (.slice a m cap)) (hy : ev L y = some (.int .i64 (k : Int)))
    (hk : 0 < k) (hc : cap < m + k) (hq : m + k = q) (ho : ∀ w, Sat w0 w A → Ro w a olds) (hol : olds.length = m * sz) (hb : (m + k) * by_ ≤ 140737488355328) (hb' : m + k ≤ 70368744177664)
    (h : ∀ b cap', q ≤ cap' → Ops P r ops Q w0 n D rest ((t, .slice (some ⟨b, 0, none⟩) q cap') :: L) (row (some ⟨b, 0, none⟩) cap' E sz q (olds ++ rep k zs) :: A))
    (hg : gd ops L ⟨some t, .call ⟨.builtin .append, #[x, y], #[T, N]⟩, ty, pos, af, g⟩ = some true := by rfl) (ht : Nat.blt t n = true := by rfl) :
    Ops P r ops Q w0 n D (⟨some t, .call ⟨.builtin .append, #[x, y], #[T, N]⟩, ty, pos, af, g⟩ :: rest) L A := by
  subst hq
  exact Ops.appzG hT hN hE hs0 hx hy hk hc ho hol hb hb' h hg ht
theorem Ops.xt {k : FuncId} {xs : List Operand} {ats : Array TypeId} {vs : List Value} {v : Value} (hx : evs L xs = some vs)
    (hc : ∀ w, Sat w0 w A → (callFunc k vs.toArray).run P w = .ok (.value v) w)
    (h : Ops P r ops Q w0 n D rest ((t, v) :: L) A)
    (hg : gd ops L ⟨some t, .call ⟨.value (.func k), xs.toArray, ats⟩, ty, pos, af, g⟩ = some true := by rfl) (ht : Nat.blt t n = true := by rfl) :
    Ops P r ops Q w0 n D (⟨some t, .call ⟨.value (.func k), xs.toArray, ats⟩, ty, pos, af, g⟩ :: rest) L A :=
  Ops.same hg rfl ht rfl (fun a w hk hs => by
    have e : xs.toArray.map a.eval = vs.toArray := by rw [List.map_toArray, evs_ok hk hx]
    have e2 : a.eval (.func k) = .func (.func k) #[] #[] := rfl
    simp only [execOp, resolve, e, e2, Deferred.ofValue, Sem.run_bind, Sem.run_pure, Result.andThen_ok, invoke]
    simpa using hc w hs) h
theorem sat_shape {w : World} {b cap sz m : Nat} {E : TypeId} {cs : List Value} {R : List Atom} (h : Sat w0 w A) (hp : Pull A (row (some ⟨b, 0, none⟩) cap E sz m cs) R) : w.shape? b = some (E, cap * sz) ∧ ∀ o, w.frozen? ⟨b, o, none⟩ = false := by
  obtain ⟨hlen, hown⟩ := h.own hp
  rcases hown with ⟨h0, _⟩ | ⟨b', cap', cur, hv0, _, hh, h2, h3, h4, h5⟩
  · cases h0
  · cases hv0
    refine ⟨by simp [World.shape?, hh, h4], fun o => by simp [World.frozen?, hh]⟩
theorem sat_apart {w : World} {b b' cap cap' sz sz' m m' : Nat} {E E' : TypeId} {cs cs' : List Value} {R R' : List Atom} (h : Sat w0 w A) (hp : Pull A (row (some ⟨b, 0, none⟩) cap E sz m cs) R) (hq : Pull R (row (some ⟨b', 0, none⟩) cap' E' sz' m' cs') R') : b ≠ b' := by
  obtain ⟨_, T, ⟨S, U, ha, hA, hd, _⟩, _⟩ := h.pull hp
  obtain ⟨S', U', hb, _, _, ht'⟩ := Sats.pull hq hA
  rintro rfl
  exact hd b ((ha.2 b).2 rfl) ((ht' b).2 (.inl ((hb.2 b).2 rfl)))
theorem q_cutA {T : TypeId} {x y : Operand} {m z b o k : Nat} {kd : IntKind} (hz : asz P T = some (m, z)) (hx : ev L x = some (.pointer (some ⟨b, o, none⟩))) (hy : ev L y = some (.int kd (k : Int))) (hk : k ≤ m) :
    Qv P w0 n D L A (.slice T x none (some y) none) (.slice (some ⟨b, o, none⟩) k m) := fun ac w hk' _ _ _ _ _ _ => ⟨by
    unfold asz at hz
    cases hu : P.underlying T with
    | none => rw [hu] at hz; cases hz
    | some d =>
      rw [hu] at hz
      cases d <;> try (cases hz; done)
      rename_i n' e
      obtain ⟨i', hi, he⟩ := Option.map_eq_some_iff.1 hz
      simp only [Prod.mk.injEq] at he
      obtain ⟨rfl, rfl⟩ := he
      have h1 : (0 ≤ (k : Int) ∧ (k : Int) ≤ (n' : Int)) := by omega
      simp [execOp, hk'.ev hx, hk'.ev hy, Instr.sliceAt, run_underlying hu, Instr.sureAddr, Instr.sliceBounds, Instr.sliceBound, asIntOf, h1, hk, sizeOf, typeInfo, hi, add_at], rfl⟩
theorem sat_rowle {w : World} {b cap sz m : Nat} {E : TypeId} {cs : List Value} {R : List Atom} (h : Sat w0 w A) (hp : Pull A (row (some ⟨b, 0, none⟩) cap E sz m cs) R) : m ≤ cap := by
  obtain ⟨hlen, hown⟩ := h.own hp
  rcases hown with ⟨h0, _⟩ | ⟨b', cap', cur, hv0, _, hh, h2, h3, h4, h5⟩
  · cases h0
  · cases hv0; exact h2
theorem Ops.rowle {b cap sz m : Nat} {E : TypeId} {cs : List Value} {R : List Atom} (hp : Pull A (row (some ⟨b, 0, none⟩) cap E sz m cs) R)
    (h : m ≤ cap → Ops P r ops Q w0 n D rest L A) : Ops P r ops Q w0 n D rest L A := fun ac w hkn hs => h (sat_rowle hs hp) ac w hkn hs
end
end Go.Proofs.YtilcdghliigngaaGl
namespace Go.Proofs.Ytilcdghliigngaa
open Go.RowKit Go.Proofs.YtilcdghliigngaaGl Go.Proofs.YtilcdghliigngaaPm
set_option linter.unusedVariables false
set_option linter.unusedSimpArgs false
def insI {α : Type} (xs : List α) (i : Nat) (y : α) : List α := xs.take i ++ [y] ++ xs.drop i
theorem insI_len {α : Type} {xs : List α} {i : Nat} {y : α} (h : i ≤ xs.length) : (insI xs i y).length = xs.length + 1 := by
  simp only [insI, List.length_append, List.length_take, List.length_drop, List.length_cons, List.length_nil]; omega
theorem Ro.mid {w : World} {b o k : Nat} {X Z R : List Value} (h : Ro w (some ⟨b, o, none⟩) (X ++ Z ++ R)) (hk : X.length = k) : Ro w (some ⟨b, o + k, none⟩) Z := fun j u hu => by
  have hj := (List.getElem?_eq_some_iff.1 hu).1
  obtain ⟨b', o', he, hc⟩ := h (k + j) u (by
    rw [List.append_assoc, List.getElem?_append_right (by omega), hk, Nat.add_sub_cancel_left, List.getElem?_append_left hj]; exact hu)
  cases he
  exact ⟨b, o + k, rfl, by rw [Nat.add_assoc]; exact hc⟩
theorem grow3 {X R Y Z : List Value} {o o2 : Nat} (hX : X.length = o) (hY : o + Y.length = o2) (hR : R.length = Y.length + Z.length) :
    ((X ++ R).take o ++ Y ++ (X ++ R).drop (o + Y.length)).take o2 ++ Z ++ ((X ++ R).take o ++ Y ++ (X ++ R).drop (o + Y.length)).drop (o2 + Z.length) = X ++ Y ++ Z := by
  subst hX; subst hY
  have e1 : (X ++ R).take X.length = X := List.take_left
  have e2 : (X ++ R).drop (X.length + Y.length) = R.drop Y.length := by
    rw [← List.drop_drop, List.drop_left]
  rw [e1, e2]
  have e3 : (X ++ Y ++ R.drop Y.length).take (X.length + Y.length) = X ++ Y := by
    rw [← List.length_append]; exact List.take_left
  have e4 : (X ++ Y ++ R.drop Y.length).drop (X.length + Y.length + Z.length) = [] := List.drop_eq_nil_of_le (by simp only [List.length_append, List.length_drop]; omega)
  rw [e3, e4, List.append_nil]
theorem room3 {X Z zs Y : List Value} {o o2 : Nat} (hX : X.length = o) (hY : o + Y.length = o2) (hz : zs.length = Y.length) :
    ((X ++ Z ++ zs).take o2 ++ Z ++ (X ++ Z ++ zs).drop (o2 + Z.length)).take o ++ Y ++ ((X ++ Z ++ zs).take o2 ++ Z ++ (X ++ Z ++ zs).drop (o2 + Z.length)).drop (o + Y.length) = X ++ Y ++ Z := by
  subst hX; subst hY
  have e1 : (X ++ Z ++ zs).drop (X.length + Y.length + Z.length) = [] := List.drop_eq_nil_of_le (by simp only [List.length_append]; omega)
  rw [e1, List.append_nil]
  have hT : ((X ++ Z ++ zs).take (X.length + Y.length)).length = X.length + Y.length := by simp only [List.length_take, List.length_append]; omega
  have e2 : ((X ++ Z ++ zs).take (X.length + Y.length) ++ Z).take X.length = X := by
    rw [List.take_append_of_le_length (by omega), List.take_take, Nat.min_eq_left (by omega), List.append_assoc]; exact List.take_left
  have e3 : ((X ++ Z ++ zs).take (X.length + Y.length) ++ Z).drop (X.length + Y.length) = Z := by
    exact List.drop_left' hT
  rw [e2, e3]
theorem fm_split {α : Type} (f : α → List Value) (xs : List α) (i : Nat) : xs.flatMap f = (xs.take i).flatMap f ++ (xs.drop i).flatMap f := by
  rw [← List.flatMap_append, List.take_append_drop]
theorem insI_fm (xs : List Evt) (i : Nat) (y : Evt) : (insI xs i y).flatMap eEvt = (xs.take i).flatMap eEvt ++ eEvt y ++ (xs.drop i).flatMap eEvt := by
  rw [insI, List.flatMap_append, List.flatMap_append]; simp
theorem tk_len {xs : List Evt} {i : Nat} (h : i ≤ xs.length) : ((xs.take i).flatMap eEvt).length = i * 2 := by
  rw [fm_length eEvt_len, List.length_take, Nat.min_eq_left h]
theorem dr_len {xs : List Evt} {i : Nat} : ((xs.drop i).flatMap eEvt).length = (xs.length - i) * 2 := by
  rw [fm_length eEvt_len, List.length_drop]
theorem ovl_c {w0 w : World} {A R R' : List Atom} {vb rb o cap m lb cb vc vn : Nat} {cs cs' : List Value} (hs : Sat w0 w A) (hp : Pull A (row (some ⟨vb, 0, none⟩) vc 88 2 vn cs) R) (hq : Pull R (row (some ⟨rb, 0, none⟩) cap 88 2 m cs') R') (hc : 0 < cap) (la ca : Nat) :
    (callFunc 88 [.slice (some ⟨vb, 0, none⟩) la ca, .slice (some ⟨rb, o, none⟩) lb cb].toArray).run Try.prog w = .ok (.value (.bool false)) w := by
  obtain ⟨h1, h2⟩ := sat_shape hs hp
  obtain ⟨h3, h4⟩ := sat_shape ((hs.pull hp).drop) hq
  have hz : ∀ w, (Go.sizeOf 88).run Try.prog w = .ok 2 w := fun w => Go.Proofs.YtilcdghliigngaaGl.run_sizeOf sz_88
  rw [run_callFunc_extern Try.func88 (by kernel_rfl) (by kernel_rfl) (by kernel_rfl) (e := Extern.SlicesOverlaps.overlaps #[27, 27] #[4]) (by kernel_rfl),
    show [Value.slice (some ⟨vb, 0, none⟩) la ca, Value.slice (some ⟨rb, o, none⟩) lb cb].toArray = #[.slice (some ⟨vb, 0, none⟩) la ca, .slice (some ⟨rb, o, none⟩) lb cb] from rfl,
    Lib.run_overlaps_apart w 27 4 88 (elT_u el_27) 2 hz ⟨vb, 0, none⟩ ⟨rb, o, none⟩ la ca lb cb (sat_apart hs hp hq) 88 88 (vc * 2) (cap * 2) h1 h3 (by omega) (h2 0) (h2 (vc * 2))]
  rfl
theorem insert_c (a : Option Addr) (cap vb i : Nat) (xs : List Evt) (y : Evt) (w0 w : World) (F : List Atom) (hi : i ≤ xs.length) (hl : xs.length ≤ 1000000) (hs : Sat w0 w (row a cap 88 2 xs.length (xs.flatMap eEvt) :: row (some ⟨vb, 0, none⟩) 1 88 2 1 (eEvt y) :: F)) :
    Calls Try.prog 58 [.slice a xs.length cap, .int .i64 (i : Int), .slice (some ⟨vb, 0, none⟩) 1 1].toArray w fun e w' => ∃ p : Option Addr × Nat, e = .returned (.slice p.1 (insI xs i y).length p.2) ∧ Sat w0 w' (row p.1 p.2 88 2 (insI xs i y).length ((insI xs i y).flatMap eEvt) :: F) := by
  refine fstart Try.func58 rfl rfl hs ?_
  refine Cd.seq ?_
  refine Cd.region ?_
  refine Ops.q (q_asg rfl) ?_
  refine Ops.to rfl ?_
  refine Cd.seq ?_
  refine Cd.region ?_
  refine Ops.q (q_mv rfl) ?_
  refine Ops.q (q_mv rfl) ?_
  refine Ops.q (q_cut (k := i) el_27 sz_88 rfl rfl (by omega)) ?_
  refine Ops.to rfl ?_
  refine Cd.seq ?_
  refine Cd.region ?_
  refine Ops.q (q_mv rfl) ?_
  refine Ops.q (q_len esz_27 rfl) ?_
  refine Ops.q (q_asg rfl) ?_
  refine Ops.to rfl ?_
  refine Cd.seq ?_
  refine Cd.seq ?_
  refine Cd.region ?_
  refine Ops.q (q_mv rfl) ?_
  refine Ops.q (q_cmp rfl rfl (c_neq (by decide))) ?_
  refine Ops.to rfl ?_
  refine Cd.cond_f rfl ?_
  refine Cd.skipTo rfl ?_
  refine Cd.seq ?_
  refine Cd.region ?_
  refine Ops.q (q_mv rfl) ?_
  refine Ops.q (q_len esz_27 rfl) ?_
  refine Ops.q (q_asg rfl) ?_
  refine Ops.to rfl ?_
  refine Cd.seq ?_
  refine Cd.seq ?_
  refine Cd.region ?_
  refine Ops.q (q_mv rfl) ?_
  refine Ops.q (q_mv rfl) ?_
  by_cases he : (i : Int) = (xs.length : Int)
  · refine Ops.q (q_cmp rfl rfl (c_eq he)) ?_
    refine Ops.to rfl ?_
    refine Cd.cond_t rfl ?_
    refine Cd.seq ?_
    refine Cd.region ?_
    refine Ops.q (q_mv rfl) ?_
    refine Ops.q (q_mv rfl) ?_
    refine Ops.app (news := (eEvt y)) el_27 zsb_88 (by decide) rfl rfl (fun _ hs => hs.ownRo (.there .here)) (fun _ hs => (hs.pull (.there .here)).drop) (fun _ _ => .here) rfl (one rfl) (by omega) (by omega) ?_
    intro a1 c2
    refine Ops.q (q_asg rfl) ?_
    refine Ops.to rfl ?_
    refine Cd.rt (fn := Try.f58) [.slice a1 (xs.length + 1) c2] (by with_reducible repeat (first | exact rq_here | apply rq_then | apply rq_block)) rfl ⟨rfl, trivial⟩ ?_
    intro w' hs'
    have hil : i = xs.length := by omega
    refine ⟨(a1, c2), by rw [insI_len hi]; rfl, ?_⟩
    rw [insI_len hi, insI_fm, List.take_of_length_le (show xs.length ≤ i by omega), List.drop_eq_nil_of_le (show xs.length ≤ i by omega), List.flatMap_nil, List.append_nil]
    exact (hs'.pull .here)
  · refine Ops.q (q_cmp rfl rfl (c_neq he)) ?_
    refine Ops.rowpos .here (by omega) ?_
    rintro rb rfl
    refine Ops.rowle .here (fun hle => ?_)
    have htl := tk_len (xs := xs) (i := i) hi
    have hdl := dr_len (xs := xs) (i := i)
    have hll := eEvt_len y
    refine Ops.to rfl ?_
    refine Cd.cond_f rfl ?_
    refine Cd.skipTo rfl ?_
    refine Cd.seq ?_
    refine Cd.seq ?_
    refine Cd.region ?_
    refine Ops.q (q_mv rfl) ?_
    refine Ops.q (q_mv rfl) ?_
    refine Ops.q (q_ar rfl rfl (a_inc (by omega))) ?_
    refine Ops.q (q_mv rfl) ?_
    refine Ops.q (q_cap el_27 rfl) ?_
    by_cases hroom : (cap : Int) < ((xs.length + 1 : Nat) : Int)
    · refine Ops.q (q_cmp rfl rfl (c_gt hroom)) ?_
      refine Ops.to rfl ?_
      refine Cd.cond_t rfl ?_
      refine Cd.seq ?_
      refine Cd.region ?_
      refine Ops.q (q_mv rfl) ?_
      refine Ops.q (q_mv rfl) ?_
      refine Ops.q (q_cutHP (k := i) el_27 sz_88 rfl rfl (by omega)) ?_
      refine Ops.q (q_mv rfl) ?_
      refine Ops.q (q_mv rfl) ?_
      refine Ops.q (q_ar rfl rfl (a_inc (by omega))) ?_
      refine Ops.q (q_mv rfl) ?_
      refine Ops.q (q_ar (v := ((xs.length + 1 - i : Nat) : Int)) rfl rfl ((by rw [a_sub (by omega)]; congr 1; omega))) ?_
      refine Ops.appzQ (m := i) (k := xs.length + 1 - i) (q := xs.length + 1) (olds := ((xs.take i).flatMap eEvt)) el_27 iK_3 zsb_88 (by decide) rfl rfl (by omega) (by omega) (by omega) (fun _ hs => RoL.take (hs.ownRo .here) i) htl (by omega) (by omega) ?_
      intro nb nc hnc
      have hrl : (rep (xs.length + 1 - i) [.int .i64 0, .int .i64 0]).length = (xs.length + 1 - i) * 2 := rep_length _ _
      refine Ops.q (q_asg rfl) ?_
      refine Ops.to rfl ?_
      refine Cd.seq ?_
      refine Cd.region ?_
      refine Ops.q (q_mv rfl) ?_
      refine Ops.q (q_mv rfl) ?_
      refine Ops.q (q_cutP (k := i) el_27 sz_88 rfl rfl (by omega) (by omega)) ?_
      refine Ops.q (q_mv rfl) ?_
      refine Ops.cpy (k := 1) (news := (eEvt y)) (cs' := ((((xs.take i).flatMap eEvt) ++ rep (xs.length + 1 - i) [.int .i64 0, .int .i64 0]).take (0 + i * 2) ++ (eEvt y) ++ (((xs.take i).flatMap eEvt) ++ rep (xs.length + 1 - i) [.int .i64 0, .int .i64 0]).drop (0 + i * 2 + (eEvt y).length))) el_27 sz_88 rfl rfl (by omega) (fun _ hs => hs.ownRo (.there (.there .here))) (rfl) (one rfl) .here (by simp only [List.length_append, List.length_take, List.length_drop, htl, hdl, hll, hrl]; omega) rfl ?_
      refine Ops.to rfl ?_
      refine Cd.seq ?_
      refine Cd.draw rfl (by kernel_rfl) .nil ?_
      intro F3 St4 hP5 hF6 hR7
      refine Dr.q (i := 0) hP5 rfl (by kernel_rfl) (q_mv rfl) ?_
      refine Dr.q (i := 1) hP5 rfl (by kernel_rfl) (q_mv rfl) ?_
      refine Dr.q (i := 2) hP5 rfl (by kernel_rfl) (q_mv rfl) ?_
      refine Dr.q (i := 3) hP5 rfl (by kernel_rfl) (q_ar (v := ((i + 1 : Nat) : Int)) rfl rfl (a_inc (by omega))) ?_
      refine Dr.q (i := 4) hP5 rfl (by kernel_rfl) (q_cutP (k := i + 1) el_27 sz_88 rfl rfl (by omega) (by omega)) ?_
      refine Dr.q (i := 5) hP5 rfl (by kernel_rfl) (q_mv rfl) ?_
      refine Dr.q (i := 6) hP5 rfl (by kernel_rfl) (q_mv rfl) ?_
      refine Dr.q (i := 7) hP5 rfl (by kernel_rfl) (q_cutP (k := i) el_27 sz_88 rfl rfl (by omega) (by omega)) ?_
      refine Dr.e (i := 8) rfl (by kernel_rfl) ?_
      refine Ops.cpy (k := xs.length - i) (news := ((xs.drop i).flatMap eEvt)) (cs' := (((((xs.take i).flatMap eEvt) ++ rep (xs.length + 1 - i) [.int .i64 0, .int .i64 0]).take (0 + i * 2) ++ (eEvt y) ++ (((xs.take i).flatMap eEvt) ++ rep (xs.length + 1 - i) [.int .i64 0, .int .i64 0]).drop (0 + i * 2 + (eEvt y).length)).take (0 + (i + 1) * 2) ++ ((xs.drop i).flatMap eEvt) ++ ((((xs.take i).flatMap eEvt) ++ rep (xs.length + 1 - i) [.int .i64 0, .int .i64 0]).take (0 + i * 2) ++ (eEvt y) ++ (((xs.take i).flatMap eEvt) ++ rep (xs.length + 1 - i) [.int .i64 0, .int .i64 0]).drop (0 + i * 2 + (eEvt y).length)).drop (0 + (i + 1) * 2 + ((xs.drop i).flatMap eEvt).length))) el_27 sz_88 rfl rfl (by omega) (fun _ hs => Ro.mid (X := (xs.take i).flatMap eEvt) (R := []) (by rw [List.append_nil, ← fm_split]; exact hs.ownRo (.there (.there .here))) htl) (hdl) (fm_one eEvt_one _) (.there .here) (by simp only [List.length_append, List.length_take, List.length_drop, htl, hdl, hll, hrl]; omega) rfl ?_
      refine Dr.back (fun _ hs => hF6 .here hs) ?_
      refine Dr.tail 9 (by kernel_rfl) ?_
      refine Ops.sat ?_ (fun _ hs => hR7 .here hs)
      refine Ops.to rfl ?_
      refine Cd.seq ?_
      refine Cd.region ?_
      refine Ops.q (q_mv rfl) ?_
      refine Ops.q (q_asg rfl) ?_
      refine Ops.to rfl ?_
      refine Cd.rt (fn := Try.f58) [.slice (some ⟨nb, 0, none⟩) (xs.length + 1) nc] (by with_reducible repeat (first | exact rq_here | apply rq_then | apply rq_block)) rfl ⟨rfl, trivial⟩ ?_
      intro w' hs'
      refine ⟨(some ⟨nb, 0, none⟩, nc), by rw [insI_len hi]; rfl, ?_⟩
      rw [insI_len hi, insI_fm]
      have h9 := (((hs'.pull .here).pull (.there .here)).drop.pull (.there .here)).drop
      rw [grow3 (by rw [htl]; omega) (by rw [hll]; omega) (by rw [hrl, hll, hdl]; omega)] at h9
      exact h9
    · refine Ops.q (q_cmp rfl rfl (c_ngt (by omega))) ?_
      refine Ops.to rfl ?_
      refine Cd.cond_f rfl ?_
      refine Cd.skipTo rfl ?_
      refine Cd.seq ?_
      refine Cd.region ?_
      refine Ops.q (q_mv rfl) ?_
      refine Ops.q (q_mv rfl) ?_
      refine Ops.q (q_mv rfl) ?_
      refine Ops.q (q_ar rfl rfl (a_inc (by omega))) ?_
      refine Ops.q (q_cutHP (k := (xs.length + 1)) el_27 sz_88 rfl rfl (by omega)) ?_
      refine Ops.q (q_asg rfl) ?_
      refine Ops.to rfl ?_
      refine Cd.seq ?_
      refine Cd.seq ?_
      refine Cd.region ?_
      refine Ops.ext (k := 1) .here (by omega) ?_
      intro zs hzs
      rw [fm_split eEvt xs i]
      refine Ops.q (q_mv rfl) ?_
      refine Ops.q (q_mv rfl) ?_
      refine Ops.q (q_mv rfl) ?_
      refine Ops.q (q_mv rfl) ?_
      refine Ops.q (q_ar (v := ((i + 1 : Nat) : Int)) rfl rfl (a_inc (by omega))) ?_
      refine Ops.q (q_cutP (k := i + 1) el_27 sz_88 rfl rfl (by omega) (by omega)) ?_
      refine Ops.xt rfl (fun w hs => ovl_c hs (.there .here) .here (by omega) _ _) ?_
      refine Ops.q (q_not rfl) ?_
      refine Ops.to rfl ?_
      refine Cd.cond_t rfl ?_
      refine Cd.seq ?_
      refine Cd.draw rfl (by kernel_rfl) .nil ?_
      intro F8 St9 hP10 hF11 hR12
      refine Dr.q (i := 0) hP10 rfl (by kernel_rfl) (q_mv rfl) ?_
      refine Dr.q (i := 1) hP10 rfl (by kernel_rfl) (q_mv rfl) ?_
      refine Dr.q (i := 2) hP10 rfl (by kernel_rfl) (q_mv rfl) ?_
      refine Dr.q (i := 3) hP10 rfl (by kernel_rfl) (q_ar (v := ((i + 1 : Nat) : Int)) rfl rfl (a_inc (by omega))) ?_
      refine Dr.q (i := 4) hP10 rfl (by kernel_rfl) (q_cutP (k := i + 1) el_27 sz_88 rfl rfl (by omega) (by omega)) ?_
      refine Dr.q (i := 5) hP10 rfl (by kernel_rfl) (q_mv rfl) ?_
      refine Dr.q (i := 6) hP10 rfl (by kernel_rfl) (q_mv rfl) ?_
      refine Dr.q (i := 7) hP10 rfl (by kernel_rfl) (q_cutP (k := i) el_27 sz_88 rfl rfl (by omega) (by omega)) ?_
      refine Dr.e (i := 8) rfl (by kernel_rfl) ?_
      refine Ops.cpy (k := xs.length - i) (news := ((xs.drop i).flatMap eEvt)) (cs' := (((xs.take i).flatMap eEvt ++ (xs.drop i).flatMap eEvt ++ zs).take (0 + (i + 1) * 2) ++ ((xs.drop i).flatMap eEvt) ++ ((xs.take i).flatMap eEvt ++ (xs.drop i).flatMap eEvt ++ zs).drop (0 + (i + 1) * 2 + ((xs.drop i).flatMap eEvt).length))) el_27 sz_88 rfl rfl (by omega) (fun _ hs => Ro.mid (X := (xs.take i).flatMap eEvt) (R := zs) (hs.ownRo (.there .here)) htl) (hdl) (fm_one eEvt_one _) (.there .here) (by simp only [List.length_append, List.length_take, List.length_drop, htl, hdl, hll, hzs]; omega) rfl ?_
      refine Dr.back (fun _ hs => hF11 .here hs) ?_
      refine Dr.tail 9 (by kernel_rfl) ?_
      refine Ops.sat ?_ (fun _ hs => hR12 .here hs)
      refine Ops.to rfl ?_
      refine Cd.seq ?_
      refine Cd.region ?_
      refine Ops.q (q_mv rfl) ?_
      refine Ops.q (q_mv rfl) ?_
      refine Ops.q (q_cutP (k := i) el_27 sz_88 rfl rfl (by omega) (by omega)) ?_
      refine Ops.q (q_mv rfl) ?_
      refine Ops.cpy (k := 1) (news := (eEvt y)) (cs' := ((((xs.take i).flatMap eEvt ++ (xs.drop i).flatMap eEvt ++ zs).take (0 + (i + 1) * 2) ++ ((xs.drop i).flatMap eEvt) ++ ((xs.take i).flatMap eEvt ++ (xs.drop i).flatMap eEvt ++ zs).drop (0 + (i + 1) * 2 + ((xs.drop i).flatMap eEvt).length)).take (0 + i * 2) ++ (eEvt y) ++ (((xs.take i).flatMap eEvt ++ (xs.drop i).flatMap eEvt ++ zs).take (0 + (i + 1) * 2) ++ ((xs.drop i).flatMap eEvt) ++ ((xs.take i).flatMap eEvt ++ (xs.drop i).flatMap eEvt ++ zs).drop (0 + (i + 1) * 2 + ((xs.drop i).flatMap eEvt).length)).drop (0 + i * 2 + (eEvt y).length))) el_27 sz_88 rfl rfl (by omega) (fun _ hs => hs.ownRo (.there .here)) (rfl) (one rfl) .here (by simp only [List.length_append, List.length_take, List.length_drop, htl, hdl, hll, hzs]; omega) rfl ?_
      refine Ops.to rfl ?_
      refine Cd.seq ?_
      refine Cd.region ?_
      refine Ops.q (q_mv rfl) ?_
      refine Ops.q (q_asg rfl) ?_
      refine Ops.to rfl ?_
      refine Cd.rt (fn := Try.f58) [.slice (some ⟨rb, 0, none⟩) (xs.length + 1) cap] (by with_reducible repeat (first | exact rq_here | apply rq_then | apply rq_block)) rfl ⟨rfl, trivial⟩ ?_
      intro w' hs'
      refine ⟨((some ⟨rb, 0, none⟩), cap), by rw [insI_len hi]; rfl, ?_⟩
      rw [insI_len hi, insI_fm]
      have h9 := ((hs'.pull .here).pull (.there .here)).drop
      rw [room3 (by rw [htl]; omega) (by rw [hll]; omega) (by rw [hzs, hll])] at h9
      exact h9
end Go.Proofs.Ytilcdghliigngaa
namespace Go.Proofs.Ytilcdghliigngaa
open Go.RowKit Go.Proofs.YtilcdghliigngaaGl Go.Proofs.YtilcdghliigngaaPm
set_option linter.unusedVariables false
set_option linter.unusedSimpArgs false
def symE (n : Nat) (x : Int) : Int := if wi x 0 ((n : Int) - 1) then 0 else 4
def evW (ws : List Int) (k : Nat) : Evt := ⟨3 * (k : Int), ws.getD k 0⟩
def evsW (ws : List Int) (k : Nat) : List Evt := (List.range k).map (evW ws)
def wordP (nx : List (List Int)) (st : Int) (al : Nat) (ws : List Int) : Except Int (List Evt) :=
  if autoE nx st al ≠ 0 then .error (autoE nx st al)
  else if 3000 < ws.length then .error 8
  else if firstE (symE (nx.headD []).length) ws ≠ 0 then .error 4
  else .ok (insI (evsW ws ws.length) (min 1 ws.length) ⟨0, ((nx.headD []).length : Int)⟩)
def RetE (r : Except Int (List Evt)) (w : World) (e : Ending) (w' : World) : Prop :=
  match r with
  | .ok xs => ∃ p : Option Addr × Nat, e = .returned (.tuple #[.slice p.1 xs.length p.2, .int .i64 0]) ∧ Sat w w' [row p.1 p.2 88 2 xs.length (xs.flatMap eEvt)]
  | .error c => e = .returned (.tuple #[.slice none 0 0, .int .i64 c]) ∧ Sat w w' []
theorem evsW_step {ws : List Int} {k : Nat} {x : Int} (h : ws[k]? = some x) : evsW ws (k + 1) = evsW ws k ++ [⟨3 * (k : Int), x⟩] := by
  unfold evsW
  rw [rg_app]
  simp only [evW, getD_at h]
theorem evsW_len (ws : List Int) (k : Nat) : (evsW ws k).length = k := rg_len _ _
theorem symE_4 {n : Nat} {x : Int} (h : ¬ wi x 0 ((n : Int) - 1)) : symE n x = 4 := by unfold symE; rw [if_neg h]
theorem symE_0 {n : Nat} {x : Int} (h : wi x 0 ((n : Int) - 1)) : symE n x = 0 := by unfold symE; rw [if_pos h]
theorem insert_n (a : Option Addr) (cap vb i n : Nat) (xs : List Evt) (y : Evt) (hn : xs.length = n) (w0 w : World) (F : List Atom) (hi : i ≤ n) (hl : n ≤ 1000000) (hs : Sat w0 w (row a cap 88 2 n (xs.flatMap eEvt) :: row (some ⟨vb, 0, none⟩) 1 88 2 1 (eEvt y) :: F)) :
    Calls Try.prog 58 [.slice a n cap, .int .i64 (i : Int), .slice (some ⟨vb, 0, none⟩) 1 1].toArray w fun e w' => ∃ p : Option Addr × Nat, e = .returned (.slice p.1 (insI xs i y).length p.2) ∧ Sat w0 w' (row p.1 p.2 88 2 (insI xs i y).length ((insI xs i y).flatMap eEvt) :: F) := by
  subst hn; exact insert_c a cap vb i xs y w0 w F hi hl hs
theorem word_c (na : Option Addr) (nc : Nat) (ls : List NL) (st : Int) (aa : Option Addr) (al ac : Nat) (wa : Option Addr) (wc : Nat) (ws : List Int) (w : World) (hL : RoLL w na ls) (hW : RoL w wa eInt ws) : Calls Try.prog 18 [.agg [.slice na ls.length nc, .int .i64 st, .slice aa al ac].toArray, .slice wa ws.length wc].toArray w (RetE (wordP (ls.map (·.2)) st al ws) w) := by
  refine fstart Try.func18 rfl rfl (Sat.nil w) ?_
  refine Cd.seq ?_
  refine Cd.region ?_
  refine Ops.box [.slice na ls.length nc, .int .i64 st, .slice aa al ac] rfl rfl ?_
  intro b1
  refine Ops.q (q_asg rfl) ?_
  refine Ops.q (q_asg rfl) ?_
  refine Ops.to rfl ?_
  refine Cd.seq ?_
  refine Cd.seq ?_
  refine Cd.region ?_
  refine Ops.q (q_ldBN [.slice na ls.length nc, .int .i64 st, .slice aa al ac] isA_36 sz_36 rfl .here rfl) ?_
  refine Ops.cp en_47 rfl (fun w hs => acheck_c _ _ ls st _ al _ w (hL.later hs.below)) ?_
  refine Ops.q (q_asg rfl) ?_
  refine Ops.to rfl ?_
  refine Cd.seq ?_
  refine Cd.region ?_
  refine Ops.q (q_mv rfl) ?_
  by_cases h2 : autoE (ls.map (fun l : NL => l.2)) st al = 0
  · refine Ops.q (q_cmp rfl rfl (c_nne h2)) ?_
    have hae := h2
    obtain ⟨hw1, hal, hw3, hrow, hin⟩ := autoE_ok h2
    rw [List.length_map] at hw1 hal
    obtain ⟨l0, hl0⟩ : ∃ x, ls[0]? = some x := ⟨_, List.getElem?_eq_getElem (by unfold wi at hw1; omega)⟩
    have hhd : (ls.map (·.2)).headD [] = l0.2 := by cases ls with | nil => simp at hl0 | cons x xs => simp at hl0; subst hl0; rfl
    rw [hhd] at hw3 hrow
    have hs1 : 1 ≤ ls.length ∧ ls.length ≤ 32 := by unfold wi at hw1; omega
    have hk1 : 1 ≤ l0.2.length ∧ l0.2.length ≤ 16 := by unfold wi at hw3; omega
    obtain ⟨nb, no, rfl⟩ := RoL.pos hL.1 eNL_len hl0
    refine Ops.to rfl ?_
    refine Cd.cond_f rfl ?_
    refine Cd.skipTo rfl ?_
    refine Cd.seq ?_
    refine Cd.region ?_
    refine Ops.q (q_fa fo_36_0 rfl) ?_
    refine Ops.q (q_ldB isA_22 rfl .here rfl) ?_
    refine Ops.q (q_ix (k := 0) esz_22 rfl rfl (by omega)) ?_
    refine Ops.q (q_ldR isA_26 rfl (hL.1.at0 eNL_len hl0 rfl)) ?_
    refine Ops.q (q_len esz_26 rfl) ?_
    refine Ops.q (q_asg rfl) ?_
    refine Ops.to rfl ?_
    refine Cd.seq ?_
    refine Cd.seq ?_
    refine Cd.region ?_
    refine Ops.q (q_mv rfl) ?_
    refine Ops.q (q_len esz_26 rfl) ?_
    by_cases h3 : 3000 < (ws.length : Int)
    · refine Ops.q (q_cmp rfl rfl (c_gt h3)) ?_
      refine Ops.to rfl ?_
      refine Cd.cond_t rfl ?_
      refine Cd.seq ?_
      refine Cd.region ?_
      refine Ops.q (q_asg rfl) ?_
      refine Ops.q (q_asg rfl) ?_
      refine Ops.to rfl ?_
      refine Cd.rt (fn := Try.f18) [.slice none 0 0, .int .i64 8] (by with_reducible repeat (first | exact rq_here | apply rq_then | apply rq_block)) rfl ⟨rfl, rfl, trivial⟩ ?_
      intro w' hs'
      have hM : wordP (ls.map (·.2)) st al ws = (if 3000 < ws.length then .error 8 else if firstE (symE l0.2.length) ws ≠ 0 then .error 4 else .ok (insI (evsW ws ws.length) (min 1 ws.length) ⟨0, (l0.2.length : Int)⟩)) := by unfold wordP; rw [if_neg (by simpa using hae), hhd]
      rw [hM, if_pos (by omega)]
      exact ⟨rfl, hs'.none⟩
    · refine Ops.q (q_cmp rfl rfl (c_ngt (by omega))) ?_
      refine Ops.to rfl ?_
      refine Cd.cond_f rfl ?_
      refine Cd.skipTo rfl ?_
      refine Cd.seq ?_
      refine Cd.region ?_
      refine Ops.q (q_asg rfl) ?_
      refine Ops.to rfl ?_
      refine Cd.seq ?_
      refine Cd.seq ?_
      refine Cd.region ?_
      refine Ops.q (q_mv rfl) ?_
      refine Ops.q (q_len esz_26 rfl) ?_
      refine Ops.q (q_mv rfl) ?_
      refine Ops.to rfl ?_
      refine Cd.block ?_
      refine Cd.lp (σ := Nat × Option Addr × Nat) (fun s => s.1 ≤ ws.length ∧ firstE (symE l0.2.length) (ws.drop s.1) = firstE (symE l0.2.length) ws) (fun s => [(2, .pointer (some ⟨b1, 0, none⟩)), (7, .int .i64 (l0.2.length : Int)), (8, .slice s.2.1 s.1 s.2.2), (24, .slice wa ws.length wc), (25, .int .i64 (ws.length : Int)), (26, .int .i64 (s.1 : Int))]) (fun s => [blk b1 36 [.slice (some ⟨nb, no, none⟩) ls.length nc, .int .i64 st, .slice aa al ac], row s.2.1 s.2.2 88 2 s.1 ((evsW ws s.1).flatMap eEvt)]) (fun s => ws.length - s.1) (0, none, 0) ⟨Nat.zero_le _, rfl⟩ ⟨rfl, rfl, rfl, rfl, rfl, rfl, trivial⟩ (fun _ hs => by have h1 := ((hs.pull .here)).nilRow 88 2; exact h1.pull (.there .here)) ?_
      rintro ⟨k, pa, pc⟩ hI
      dsimp only at hI
      change Cd _ _ _ _ _ _ _ [(2, .pointer (some ⟨b1, 0, none⟩)), (7, .int .i64 (l0.2.length : Int)), (8, .slice pa k pc), (24, .slice wa ws.length wc), (25, .int .i64 (ws.length : Int)), (26, .int .i64 (k : Int))] ([blk b1 36 [.slice (some ⟨nb, no, none⟩) ls.length nc, .int .i64 st, .slice aa al ac], row pa pc 88 2 k ((evsW ws k).flatMap eEvt)])
      have hI1 := hI.1
      refine Cd.seq ?_
      refine Cd.region ?_
      by_cases hk : (k : Int) < (ws.length : Int)
      · refine Ops.q (q_cmp rfl rfl (c_lt hk)) ?_
        obtain ⟨x4, hx5⟩ : ∃ x, ws[k]? = some x := ⟨_, List.getElem?_eq_getElem (by omega)⟩
        obtain ⟨ab6, ao7, rfl⟩ := RoL.pos hW eInt_len hx5
        refine Ops.to rfl ?_
        refine Cd.seq ?_
        refine Cd.cond_t rfl ?_
        refine Cd.skipTo rfl ?_
        refine Cd.seq ?_
        refine Cd.block ?_
        refine Cd.seq ?_
        refine Cd.region ?_
        refine Ops.q (q_mv rfl) ?_
        refine Ops.q (q_ix (k := k) esz_26 rfl rfl (by omega)) ?_
        refine Ops.q (q_ldR isA_3 rfl (hW.at0 eInt_len hx5 rfl)) ?_
        refine Ops.q (q_asg rfl) ?_
        refine Ops.q (q_asg rfl) ?_
        refine Ops.to rfl ?_
        refine Cd.seq ?_
        refine Cd.seq ?_
        refine Cd.region ?_
        refine Ops.q (q_mv rfl) ?_
        refine Ops.q (q_mv rfl) ?_
        refine Ops.q (q_ar (v := (l0.2.length : Int) - 1) rfl rfl (a_sub (by omega))) ?_
        by_cases h8 : wi x4 0 ((l0.2.length : Int) - 1)
        · refine Ops.cp en_57 rfl (fun w hs => dT (in_c _ _ _ w) h8) ?_
          refine Ops.q (q_not rfl) ?_
          refine Ops.to rfl ?_
          refine Cd.cond_f rfl ?_
          refine Cd.skipTo rfl ?_
          refine Cd.region ?_
          refine Ops.q (q_mv rfl) ?_
          refine Ops.q (q_mv rfl) ?_
          refine Ops.q (q_ar rfl rfl (a_mul (by omega))) ?_
          refine Ops.q (q_mv rfl) ?_
          refine Ops.q (q_bld [.int .i64 (3 * (k : Int)), .int .i64 x4] pls_88 zc_88 rfl rfl) ?_
          refine Ops.lit [.int .i64 (3 * (k : Int)), .int .i64 x4] el_27 zsb_88 rfl rfl ⟨by decide, by decide⟩ rfl ?_
          intro b9
          refine Ops.app (news := [.int .i64 (3 * (k : Int)), .int .i64 x4]) el_27 zsb_88 (by decide) rfl rfl (fun _ hs => hs.ownRo .here) (fun _ hs => (hs.pull .here).drop) (fun _ _ => (.there .here)) rfl (one rfl) (by omega) (by omega) ?_
          intro a10 c11
          refine Ops.q (q_asg rfl) ?_
          refine Ops.to rfl ?_
          refine Cd.region ?_
          refine Ops.q (q_ar rfl rfl (a_inc (by omega))) ?_
          refine Ops.q (q_mv rfl) ?_
          refine Ops.rnd ((k + 1, a10, c11)) rfl (by dsimp only; exact (⟨by omega, by rw [← hI.2]; exact (firstE_step hx5 (symE_0 h8)).symm⟩)) (by dsimp only; omega) ⟨rfl, rfl, rfl, rfl, rfl, rfl, trivial⟩ (fun _ hs => by have h1 := ((hs.pull (.there .here)).pull (.there .here)); (try dsimp only); rw [evsW_step hx5, fm_app]; exact h1) 
        · refine Ops.cp en_57 rfl (fun w hs => dF (in_c _ _ _ w) h8) ?_
          refine Ops.q (q_not rfl) ?_
          refine Ops.to rfl ?_
          refine Cd.cond_t rfl ?_
          refine Cd.seq ?_
          refine Cd.region ?_
          refine Ops.q (q_asg rfl) ?_
          refine Ops.q (q_asg rfl) ?_
          refine Ops.to rfl ?_
          refine Cd.rt (fn := Try.f18) [.slice none 0 0, .int .i64 4] (by with_reducible repeat (first | exact rq_here | apply rq_then | apply rq_block)) rfl ⟨rfl, rfl, trivial⟩ ?_
          intro w' hs'
          have hM : wordP (ls.map (·.2)) st al ws = (if 3000 < ws.length then .error 8 else if firstE (symE l0.2.length) ws ≠ 0 then .error 4 else .ok (insI (evsW ws ws.length) (min 1 ws.length) ⟨0, (l0.2.length : Int)⟩)) := by unfold wordP; rw [if_neg (by simpa using hae), hhd]
          have h9 : firstE (symE l0.2.length) ws = 4 := by rw [← hI.2, firstE_stop hx5 (by rw [symE_4 h8]; decide), symE_4 h8]
          rw [hM, if_neg (by omega), h9, if_pos (by decide)]
          exact ⟨rfl, hs'.none⟩
      · refine Ops.q (q_cmp rfl rfl (c_nlt (by omega))) ?_
        refine Ops.to rfl ?_
        refine Cd.seq ?_
        refine Cd.cond_f rfl ?_
        refine Cd.exitTo rfl ?_
        refine Cd.seq ?_
        refine Cd.region ?_
        refine Ops.q (q_mv rfl) ?_
        refine Ops.q (q_mv rfl) ?_
        refine Ops.q (q_len esz_27 rfl) ?_
        refine Ops.q (q_min rfl rfl) ?_
        rw [show min (1 : Int) (k : Int) = ((min 1 k : Nat) : Int) by omega]
        refine Ops.q (q_mv rfl) ?_
        refine Ops.q (q_bld [.int .i64 0, .int .i64 (l0.2.length : Int)] pls_88 zc_88 rfl rfl) ?_
        refine Ops.lit [.int .i64 0, .int .i64 (l0.2.length : Int)] el_27 zsb_88 rfl rfl ⟨by decide, by decide⟩ rfl ?_
        intro b12
        refine Ops.cm (α := Option Addr × Nat) (v := fun p => .slice p.1 (insI (evsW ws k) (min 1 k) (⟨0, (l0.2.length : Int)⟩ : Evt)).length p.2) (A' := fun p => row p.1 p.2 88 2 (insI (evsW ws k) (min 1 k) (⟨0, (l0.2.length : Int)⟩ : Evt)).length ((insI (evsW ws k) (min 1 k) (⟨0, (l0.2.length : Int)⟩ : Evt)).flatMap eEvt) :: [blk b1 36 [.slice (some ⟨nb, no, none⟩) ls.length nc, .int .i64 st, .slice aa al ac]]) en_58 rfl (fun w hs => insert_n pa pc b12 (min 1 k) k (evsW ws k) (⟨0, (l0.2.length : Int)⟩ : Evt) (evsW_len _ _) _ w _ (by omega) (by omega) ((((hs.pull (.there .here)).pull (.there .here)).pull (.there (.there .here))))) ?_
        rintro ⟨ia, ic⟩
        refine Ops.q (q_asg rfl) ?_
        refine Ops.q (q_asg rfl) ?_
        refine Ops.to rfl ?_
        refine Cd.rt (fn := Try.f18) [.slice ia ((insI (evsW ws k) (min 1 k) (⟨0, (l0.2.length : Int)⟩ : Evt)).length) ic, .int .i64 0] (by with_reducible repeat (first | exact rq_here | apply rq_then | apply rq_block)) rfl ⟨rfl, rfl, trivial⟩ ?_
        intro w' hs'
        have hM : wordP (ls.map (·.2)) st al ws = (if 3000 < ws.length then .error 8 else if firstE (symE l0.2.length) ws ≠ 0 then .error 4 else .ok (insI (evsW ws ws.length) (min 1 ws.length) ⟨0, (l0.2.length : Int)⟩)) := by unfold wordP; rw [if_neg (by simpa using hae), hhd]
        have h9 : firstE (symE l0.2.length) ws = 0 := by rw [← hI.2, firstE_end (by omega)]
        rw [hM, if_neg (by omega), h9, if_neg (by decide)]
        have hk : k = ws.length := by omega
        subst hk
        exact ⟨(ia, ic), rfl, hs'.only .here⟩
  · refine Ops.q (q_cmp rfl rfl (c_ne h2)) ?_
    refine Ops.to rfl ?_
    refine Cd.cond_t rfl ?_
    refine Cd.seq ?_
    refine Cd.region ?_
    refine Ops.q (q_mv rfl) ?_
    refine Ops.q (q_asg rfl) ?_
    refine Ops.q (q_asg rfl) ?_
    refine Ops.to rfl ?_
    refine Cd.rt (fn := Try.f18) [.slice none 0 0, .int .i64 (autoE (ls.map (fun l : NL => l.2)) st al)] (by with_reducible repeat (first | exact rq_here | apply rq_then | apply rq_block)) rfl ⟨rfl, rfl, trivial⟩ ?_
    intro w' hs'
    rw [show wordP (ls.map (·.2)) st al ws = .error (autoE (ls.map (·.2)) st al) by unfold wordP; rw [if_pos h2]]
    exact ⟨rfl, hs'.none⟩
end Go.Proofs.Ytilcdghliigngaa
namespace Go.Proofs.Ytilcdghliigngaa
open Go.RowKit Go.Proofs.YtilcdghliigngaaGl Go.Proofs.YtilcdghliigngaaPm
set_option linter.unusedVariables false
set_option linter.unusedSimpArgs false
end Go.Proofs.Ytilcdghliigngaa
namespace Go.Proofs.Ytilcdghliigngaa
open Go.RowKit Go.Proofs.YtilcdghliigngaaGl Go.Proofs.YtilcdghliigngaaPm
set_option linter.unusedVariables false
set_option linter.unusedSimpArgs false
def hN (s k j : Nat) : Int := if s ≤ j ∧ j < s + s * k then 2 else 1
def mNs (s k i : Nat) : List Prm := (List.range i).map fun j => gateP (hN s k j)
theorem mNs_end (s k : Nat) : mNs s k (s + s * k + 1) = ((List.replicate s (1 : Int)).map (setTh (gateP 0)) ++ (List.replicate (s * k) (2 : Int)).map (setTh (gateP 0))) ++ [(1 : Int)].map (setTh (gateP 0)) := by
  unfold mNs
  rw [List.range_succ, List.map_append, List.range_add, List.map_append]
  congr 1
  · congr 1
    · rw [List.map_replicate]
      refine List.eq_replicate_iff.2 ⟨by simp, fun b hb => ?_⟩
      obtain ⟨j, hj, rfl⟩ := List.mem_map.1 hb
      have := List.mem_range.1 hj
      rw [hN, if_neg (by omega)]; rfl
    · rw [List.map_replicate]
      refine List.eq_replicate_iff.2 ⟨by simp, fun b hb => ?_⟩
      obtain ⟨j, hj, rfl⟩ := List.mem_map.1 hb
      obtain ⟨i, hi, rfl⟩ := List.mem_map.1 hj
      have := List.mem_range.1 hi
      rw [hN, if_pos (by omega)]; rfl
  · simp only [List.map_cons, List.map_nil]
    rw [hN, if_neg (by omega)]; rfl
theorem mNs_len (s k i : Nat) : (mNs s k i).length = i := rg_len _ _
end Go.Proofs.Ytilcdghliigngaa
namespace Go.Proofs.Ytilcdghliigngaa
open Go.RowKit Go.Proofs.YtilcdghliigngaaGl Go.Proofs.YtilcdghliigngaaPm
set_option linter.unusedVariables false
set_option linter.unusedSimpArgs false
theorem mpT_166 : mpT Try.prog 166 = some (3, 4) := by kernel_rfl
theorem zero_4 : ∀ w, (zeroValue 4).run Try.prog w = .ok (.bool false) w := fun w => by kernel_rfl
def setE (n : Int) (xs : List Int) : Int := if ∀ x ∈ xs, wi x 0 (n - 1) then (if xs.Nodup then 0 else 5) else 4
def mtk (xs : List Int) : List (Int × Value) := xs.map fun x => (x, .bool true)
theorem findI_mtk (k : Int) : ∀ (xs : List Int) (i : Nat), (k ∈ xs → ∃ j, findI k (mtk xs) i = some (j, .bool true)) ∧ (¬ k ∈ xs → findI k (mtk xs) i = none)
  | [], i => ⟨fun h => by simp at h, fun _ => rfl⟩
  | x :: xs, i => by
    have ih := findI_mtk k xs (i + 1)
    by_cases h : k = x
    · subst h
      exact ⟨fun _ => ⟨i, by simp [mtk, findI]⟩, fun h => by simp at h⟩
    · have e : findI k (mtk (x :: xs)) i = findI k (mtk xs) (i + 1) := by simp [mtk, findI, h]
      rw [e]
      exact ⟨fun hm => ih.1 (by simpa [h] using hm), fun hm => ih.2 (fun h2 => hm (.tail _ h2))⟩
theorem looki_in {k : Int} {xs : List Int} (h : k ∈ xs) : looki (mtk xs) k = some (.bool true) := by
  obtain ⟨j, hj⟩ := (findI_mtk k xs 0).1 h
  simp [looki, hj]
theorem looki_out {k : Int} {xs : List Int} (h : ¬ k ∈ xs) : looki (mtk xs) k = none := by
  simp [looki, (findI_mtk k xs 0).2 h]
theorem updI_out {k : Int} {xs : List Int} (h : ¬ k ∈ xs) : updI (mtk xs) k (.bool true) = mtk (xs ++ [k]) := by
  unfold updI
  rw [(findI_mtk k xs 0).2 h]
  simp [mtk]
theorem nodup_step {xs : List Int} {k : Nat} {x : Int} (hx : xs[k]? = some x) (h : (xs.take k).Nodup) (hn : ¬ x ∈ xs.take k) : (xs.take (k + 1)).Nodup := by
  rw [List.take_add_one, hx]
  refine List.nodup_append.2 ⟨h, by simp, ?_⟩
  intro a ha b hb e
  have hb' := List.mem_singleton.1 hb
  subst hb'; subst e; exact hn ha
theorem nodup_stop {xs : List Int} {k : Nat} {x : Int} (hx : xs[k]? = some x) (hn : x ∈ xs.take k) : ¬ xs.Nodup := by
  intro h
  have h2 : (xs.take (k + 1)).Nodup := h.sublist (List.take_sublist _ _)
  rw [List.take_add_one, hx] at h2
  exact (List.nodup_append.1 h2).2.2 x hn x (by simp) rfl
theorem diff1_c (tb bl : Nat) (x n : Int) (w0 w : World) (F : List Atom) (hn : -1000000 ≤ n ∧ n ≤ 1000000) (hs : Sat w0 w (blk tb 131 [.func (.func 92) #[] #[.pointer (some ⟨bl, 0, none⟩)]] :: blk bl 3 [.int .i64 n] :: F)) : Calls Try.prog 91 [.int .i64 x, .pointer (some ⟨tb, 0, none⟩)].toArray w fun e w' => e = .returned (.bool (decide (¬ wi x 0 (n - 1)))) ∧ Sat w0 w' (blk tb 131 [.func (.func 92) #[] #[.pointer (some ⟨bl, 0, none⟩)]] :: blk bl 3 [.int .i64 n] :: F) := by
  refine fstart Try.func91 rfl rfl hs ?_
  refine Cd.seq ?_
  refine Cd.region ?_
  refine Ops.q (q_asg rfl) ?_
  refine Ops.to rfl ?_
  refine Cd.seq ?_
  refine Cd.region ?_
  refine Ops.q (q_ldB isA_131 rfl .here rfl) ?_
  refine Ops.q (q_mv rfl) ?_
  by_cases h1 : wi x 0 (n - 1)
  · refine Ops.cv (α := Unit) (k := 92) (first := []) (caps := [.pointer (some ⟨bl, 0, none⟩)]) (vs := [.int .i64 x]) (v := fun _ => .bool true) (A' := fun _ => blk bl 3 [.int .i64 n] :: blk tb 131 [.func (.func 92) #[] #[.pointer (some ⟨bl, 0, none⟩)]] :: F) en_92 rfl rfl (fun w hs => bT (below1_c bl x n _ w _ (by omega) (((hs.pull .here).pull (.there .here)))) h1) ?_
    intro _
    refine Ops.q (q_not rfl) ?_
    refine Ops.q (q_asg rfl) ?_
    refine Ops.to rfl ?_
    refine Cd.rt (fn := Try.f91) [.bool false] (by with_reducible repeat (first | exact rq_here | apply rq_then | apply rq_block)) rfl ⟨rfl, trivial⟩ ?_
    intro w' hs
    exact ⟨ebool (by simp [h1]), ((hs.pull .here).pull (.there .here))⟩
  · refine Ops.cv (α := Unit) (k := 92) (first := []) (caps := [.pointer (some ⟨bl, 0, none⟩)]) (vs := [.int .i64 x]) (v := fun _ => .bool false) (A' := fun _ => blk bl 3 [.int .i64 n] :: blk tb 131 [.func (.func 92) #[] #[.pointer (some ⟨bl, 0, none⟩)]] :: F) en_92 rfl rfl (fun w hs => bF (below1_c bl x n _ w _ (by omega) (((hs.pull .here).pull (.there .here)))) h1) ?_
    intro _
    refine Ops.q (q_not rfl) ?_
    refine Ops.q (q_asg rfl) ?_
    refine Ops.to rfl ?_
    refine Cd.rt (fn := Try.f91) [.bool true] (by with_reducible repeat (first | exact rq_here | apply rq_then | apply rq_block)) rfl ⟨rfl, trivial⟩ ?_
    intro w' hs
    exact ⟨ebool (by simp [h1]), ((hs.pull .here).pull (.there .here))⟩
theorem indexI_c (tb bl : Nat) (xa : Option Addr) (xc : Nat) (xs : List Int) (n : Int) (w0 w : World) (F : List Atom) (hX : RoL w0 xa eInt xs) (hl : xs.length ≤ 1000000) (hn : -1000000 ≤ n ∧ n ≤ 1000000) (hs : Sat w0 w (blk tb 131 [.func (.func 92) #[] #[.pointer (some ⟨bl, 0, none⟩)]] :: blk bl 3 [.int .i64 n] :: F)) : Calls Try.prog 111 [.slice xa xs.length xc, .func (.func 91) #[] #[.pointer (some ⟨tb, 0, none⟩)]].toArray w fun e w' => ∃ i : Int, e = .returned (.int .i64 i) ∧ (0 ≤ i ↔ ∃ y ∈ xs, ¬ wi y 0 (n - 1)) ∧ Sat w0 w' (blk tb 131 [.func (.func 92) #[] #[.pointer (some ⟨bl, 0, none⟩)]] :: blk bl 3 [.int .i64 n] :: F) := by
  refine fstart Try.func111 rfl rfl hs ?_
  refine Cd.seq ?_
  refine Cd.region ?_
  refine Ops.q (q_asg rfl) ?_
  refine Ops.to rfl ?_
  refine Cd.seq ?_
  refine Cd.seq ?_
  refine Cd.region ?_
  refine Ops.q (q_mv rfl) ?_
  refine Ops.q (q_len esz_26 rfl) ?_
  refine Ops.q (q_mv rfl) ?_
  refine Ops.to rfl ?_
  refine Cd.block ?_
  refine Cd.lp (σ := Nat) (fun k => k ≤ xs.length ∧ ∀ y ∈ xs.take k, wi y 0 (n - 1)) (fun k => [(0, .slice xa xs.length xc), (1, .func (.func 91) #[] #[.pointer (some ⟨tb, 0, none⟩)]), (7, .int .i64 (xs.length : Int)), (8, .int .i64 (k : Int))]) (fun k => blk tb 131 [.func (.func 92) #[] #[.pointer (some ⟨bl, 0, none⟩)]] :: blk bl 3 [.int .i64 n] :: F) (fun k => xs.length - k) 0 ⟨Nat.zero_le _, by simp⟩ ⟨rfl, rfl, rfl, rfl, trivial⟩ (fun _ hs => hs) ?_
  intro k hI
  have hI1 := hI.1
  refine Cd.seq ?_
  refine Cd.region ?_
  by_cases hk : (k : Int) < (xs.length : Int)
  · refine Ops.q (q_cmp rfl rfl (c_lt hk)) ?_
    obtain ⟨x1, hx2⟩ : ∃ x, xs[k]? = some x := ⟨_, List.getElem?_eq_getElem (by omega)⟩
    obtain ⟨ab3, ao4, rfl⟩ := RoL.pos hX eInt_len hx2
    refine Ops.to rfl ?_
    refine Cd.seq ?_
    refine Cd.cond_t rfl ?_
    refine Cd.skipTo rfl ?_
    refine Cd.seq ?_
    refine Cd.block ?_
    refine Cd.seq ?_
    refine Cd.region ?_
    refine Ops.q (q_mv rfl) ?_
    refine Ops.q (q_asg rfl) ?_
    refine Ops.to rfl ?_
    refine Cd.seq ?_
    refine Cd.region ?_
    refine Ops.q (q_mv rfl) ?_
    refine Ops.q (q_mv rfl) ?_
    refine Ops.q (q_mv rfl) ?_
    refine Ops.q (q_ix (k := k) esz_26 rfl rfl (by omega)) ?_
    refine Ops.q (q_ldR isA_3 rfl (hX.at0 eInt_len hx2 rfl)) ?_
    by_cases hc5 : ¬ wi x1 0 (n - 1)
    · refine Ops.cv (α := Unit) (k := 91) (first := []) (caps := [.pointer (some ⟨tb, 0, none⟩)]) (vs := [.int .i64 x1]) (v := fun _ => .bool true) (A' := fun _ => blk tb 131 [.func (.func 92) #[] #[.pointer (some ⟨bl, 0, none⟩)]] :: blk bl 3 [.int .i64 n] :: F) en_91 rfl rfl (fun w hs => bT (diff1_c tb bl x1 n _ w _ hn hs) hc5) ?_
      intro _
      refine Ops.to rfl ?_
      refine Cd.cond_t rfl ?_
      refine Cd.seq ?_
      refine Cd.region ?_
      refine Ops.q (q_mv rfl) ?_
      refine Ops.q (q_asg rfl) ?_
      refine Ops.to rfl ?_
      refine Cd.rt (fn := Try.f111) [.int .i64 (k : Int)] (by with_reducible repeat (first | exact rq_here | apply rq_then | apply rq_block)) rfl ⟨rfl, trivial⟩ ?_
      intro w' hs'
      exact ⟨(k : Int), rfl, ⟨fun _ => ⟨x1, List.mem_iff_getElem?.2 ⟨k, hx2⟩, hc5⟩, fun _ => by omega⟩, hs'⟩
    · refine Ops.cv (α := Unit) (k := 91) (first := []) (caps := [.pointer (some ⟨tb, 0, none⟩)]) (vs := [.int .i64 x1]) (v := fun _ => .bool false) (A' := fun _ => blk tb 131 [.func (.func 92) #[] #[.pointer (some ⟨bl, 0, none⟩)]] :: blk bl 3 [.int .i64 n] :: F) en_91 rfl rfl (fun w hs => bF (diff1_c tb bl x1 n _ w _ hn hs) hc5) ?_
      intro _
      refine Ops.to rfl ?_
      refine Cd.cond_f rfl ?_
      refine Cd.skipTo rfl ?_
      refine Cd.region ?_
      refine Ops.q (q_ar rfl rfl (a_inc (by omega))) ?_
      refine Ops.q (q_mv rfl) ?_
      refine Ops.rnd (k + 1) rfl (⟨by omega, by intro y hy; rw [List.take_add_one, hx2] at hy; rcases List.mem_append.1 hy with hy | hy; exact hI.2 y hy; obtain rfl := List.mem_singleton.1 hy; exact Decidable.of_not_not hc5⟩) (by omega) ⟨rfl, rfl, rfl, rfl, trivial⟩ (fun _ hs => hs) 
  · refine Ops.q (q_cmp rfl rfl (c_nlt (by omega))) ?_
    refine Ops.to rfl ?_
    refine Cd.seq ?_
    refine Cd.cond_f rfl ?_
    refine Cd.exitTo rfl ?_
    refine Cd.seq ?_
    refine Cd.region ?_
    refine Ops.q (q_asg rfl) ?_
    refine Ops.to rfl ?_
    refine Cd.rt (fn := Try.f111) [.int .i64 (-1)] (by with_reducible repeat (first | exact rq_here | apply rq_then | apply rq_block)) rfl ⟨rfl, trivial⟩ ?_
    intro w' hs'
    exact ⟨-1, rfl, ⟨fun h => by omega, fun ⟨y, hy, hne⟩ => by rw [List.take_of_length_le (by omega)] at hI; exact absurd (hI.2 y hy) hne⟩, hs'⟩
theorem containsI_c (tb bl : Nat) (xa : Option Addr) (xc : Nat) (xs : List Int) (n : Int) (w0 w : World) (F : List Atom) (hX : RoL w0 xa eInt xs) (hl : xs.length ≤ 1000000) (hn : -1000000 ≤ n ∧ n ≤ 1000000) (hs : Sat w0 w (blk tb 131 [.func (.func 92) #[] #[.pointer (some ⟨bl, 0, none⟩)]] :: blk bl 3 [.int .i64 n] :: F)) : Calls Try.prog 90 [.slice xa xs.length xc, .func (.func 91) #[] #[.pointer (some ⟨tb, 0, none⟩)]].toArray w fun e w' => e = .returned (.bool (decide (∃ y ∈ xs, ¬ wi y 0 (n - 1)))) ∧ Sat w0 w' (blk tb 131 [.func (.func 92) #[] #[.pointer (some ⟨bl, 0, none⟩)]] :: blk bl 3 [.int .i64 n] :: F) := by
  refine fstart Try.func90 rfl rfl hs ?_
  refine Cd.seq ?_
  refine Cd.region ?_
  refine Ops.q (q_asg rfl) ?_
  refine Ops.to rfl ?_
  refine Cd.seq ?_
  refine Cd.region ?_
  refine Ops.q (q_mv rfl) ?_
  refine Ops.q (q_mv rfl) ?_
  refine Ops.cm (α := {i : Int // 0 ≤ i ↔ ∃ y ∈ xs, ¬ wi y 0 (n - 1)}) (v := fun i => .int .i64 i.1) (A' := fun _ => blk tb 131 [.func (.func 92) #[] #[.pointer (some ⟨bl, 0, none⟩)]] :: blk bl 3 [.int .i64 n] :: F) en_111 rfl (fun w hs => (indexI_c tb bl _ _ xs n _ w _ hX hl hn hs).mono fun e w' h => by obtain ⟨i, h1, h2, h3⟩ := h; exact ⟨⟨i, h2⟩, h1, h3⟩) ?_
  intro i
  by_cases h1 : 0 ≤ i.1
  · refine Ops.q (q_cmp rfl rfl (c_ge h1)) ?_
    refine Ops.q (q_asg rfl) ?_
    refine Ops.to rfl ?_
    refine Cd.rt (fn := Try.f90) [.bool true] (by with_reducible repeat (first | exact rq_here | apply rq_then | apply rq_block)) rfl ⟨rfl, trivial⟩ ?_
    intro w' hs'
    exact ⟨ebool (by rw [← i.2]; simp; try omega), hs'⟩
  · refine Ops.q (q_cmp rfl rfl (c_nge (by omega))) ?_
    refine Ops.q (q_asg rfl) ?_
    refine Ops.to rfl ?_
    refine Cd.rt (fn := Try.f90) [.bool false] (by with_reducible repeat (first | exact rq_here | apply rq_then | apply rq_block)) rfl ⟨rfl, trivial⟩ ?_
    intro w' hs'
    exact ⟨ebool (by rw [← i.2]; simp; try omega), hs'⟩
theorem different_c (bl : Nat) (xa : Option Addr) (xc : Nat) (xs : List Int) (n : Int) (w0 w : World) (F : List Atom) (hX : RoL w0 xa eInt xs) (hl : xs.length ≤ 1000000) (hn : -1000000 ≤ n ∧ n ≤ 1000000) (hs : Sat w0 w (blk bl 3 [.int .i64 n] :: F)) : Calls Try.prog 64 [.slice xa xs.length xc, .func (.func 92) #[] #[.pointer (some ⟨bl, 0, none⟩)]].toArray w fun e w' => e = .returned (.int .i64 (setE n xs)) ∧ Sat w0 w' (blk bl 3 [.int .i64 n] :: F) := by
  refine fstart Try.func64 rfl rfl hs ?_
  refine Cd.seq ?_
  refine Cd.region ?_
  refine Ops.box [.func (.func 92) #[] #[.pointer (some ⟨bl, 0, none⟩)]] rfl rfl ?_
  intro b1
  refine Ops.q (q_asg rfl) ?_
  refine Ops.to rfl ?_
  refine Cd.seq ?_
  refine Cd.seq ?_
  refine Cd.region ?_
  refine Ops.q (q_mv rfl) ?_
  refine Ops.q (q_mkf rfl rfl) ?_
  by_cases hc2 : ∃ y ∈ xs, ¬ wi y 0 (n - 1)
  · refine Ops.cm (α := Unit) (v := fun _ => .bool true) (A' := fun _ => blk b1 131 [.func (.func 92) #[] #[.pointer (some ⟨bl, 0, none⟩)]] :: blk bl 3 [.int .i64 n] :: F) en_90 rfl (fun w hs => bT (containsI_c b1 bl _ _ xs n _ w _ hX hl hn (((hs.pull (.there .here)).pull (.there .here)))) hc2) ?_
    intro _
    refine Ops.to rfl ?_
    refine Cd.cond_t rfl ?_
    refine Cd.seq ?_
    refine Cd.region ?_
    refine Ops.q (q_asg rfl) ?_
    refine Ops.to rfl ?_
    refine Cd.rt (fn := Try.f64) [.int .i64 4] (by with_reducible repeat (first | exact rq_here | apply rq_then | apply rq_block)) rfl ⟨rfl, trivial⟩ ?_
    intro w' hs'
    rw [show setE n xs = 4 by unfold setE; rw [if_neg (fun h => by obtain ⟨y, hy, hne⟩ := hc2; exact hne (h y hy))]]
    exact ⟨rfl, ((hs'.pull (.there .here)).pull (.there .here)).drop⟩
  · refine Ops.cm (α := Unit) (v := fun _ => .bool false) (A' := fun _ => blk b1 131 [.func (.func 92) #[] #[.pointer (some ⟨bl, 0, none⟩)]] :: blk bl 3 [.int .i64 n] :: F) en_90 rfl (fun w hs => bF (containsI_c b1 bl _ _ xs n _ w _ hX hl hn (((hs.pull (.there .here)).pull (.there .here)))) hc2) ?_
    intro _
    refine Ops.to rfl ?_
    refine Cd.cond_f rfl ?_
    refine Cd.skipTo rfl ?_
    refine Cd.seq ?_
    refine Cd.region ?_
    refine Ops.mkm ?_
    intro b3
    refine Ops.q (q_asg rfl) ?_
    refine Ops.to rfl ?_
    refine Cd.seq ?_
    refine Cd.seq ?_
    refine Cd.region ?_
    refine Ops.q (q_mv rfl) ?_
    refine Ops.q (q_len esz_26 rfl) ?_
    refine Ops.q (q_mv rfl) ?_
    refine Ops.to rfl ?_
    refine Cd.block ?_
    refine Cd.lp (σ := Nat) (fun k => k ≤ xs.length ∧ (xs.take k).Nodup) (fun k => [(5, .map (some b3)), (12, .slice xa xs.length xc), (13, .int .i64 (xs.length : Int)), (14, .int .i64 (k : Int))]) (fun k => imap b3 (mtk (xs.take k)) :: blk bl 3 [.int .i64 n] :: F) (fun k => xs.length - k) 0 ⟨Nat.zero_le _, by simp⟩ ⟨rfl, rfl, rfl, rfl, trivial⟩ (fun _ hs => (((hs.pull (.there (.there .here))).pull (.there .here)).pull (.there (.there .here))).drop) ?_
    intro k hI
    have hI1 := hI.1
    refine Cd.seq ?_
    refine Cd.region ?_
    by_cases hk : (k : Int) < (xs.length : Int)
    · refine Ops.q (q_cmp rfl rfl (c_lt hk)) ?_
      obtain ⟨x4, hx5⟩ : ∃ x, xs[k]? = some x := ⟨_, List.getElem?_eq_getElem (by omega)⟩
      obtain ⟨ab6, ao7, rfl⟩ := RoL.pos hX eInt_len hx5
      refine Ops.to rfl ?_
      refine Cd.seq ?_
      refine Cd.cond_t rfl ?_
      refine Cd.skipTo rfl ?_
      refine Cd.seq ?_
      refine Cd.block ?_
      refine Cd.seq ?_
      refine Cd.region ?_
      refine Ops.q (q_ix (k := k) esz_26 rfl rfl (by omega)) ?_
      refine Ops.q (q_ldR isA_3 rfl (hX.at0 eInt_len hx5 rfl)) ?_
      refine Ops.q (q_asg rfl) ?_
      refine Ops.to rfl ?_
      refine Cd.seq ?_
      refine Cd.seq ?_
      refine Cd.region ?_
      refine Ops.q (q_mv rfl) ?_
      refine Ops.q (q_mv rfl) ?_
      by_cases hd8 : x4 ∈ xs.take k
      · refine Ops.q (q_look mpT_166 iK_3 rfl rfl .here (.inl (looki_in hd8))) ?_
        refine Ops.to rfl ?_
        refine Cd.cond_t rfl ?_
        refine Cd.seq ?_
        refine Cd.region ?_
        refine Ops.q (q_asg rfl) ?_
        refine Ops.to rfl ?_
        refine Cd.rt (fn := Try.f64) [.int .i64 5] (by with_reducible repeat (first | exact rq_here | apply rq_then | apply rq_block)) rfl ⟨rfl, trivial⟩ ?_
        intro w' hs'
        rw [show setE n xs = 5 by unfold setE; rw [if_pos (fun y hy => Decidable.of_not_not (fun hne => hc2 ⟨y, hy, hne⟩)), if_neg (nodup_stop hx5 hd8)]]
        exact ⟨rfl, ((hs'.pull (.there .here)).pull (.there .here)).drop⟩
      · refine Ops.q (q_look mpT_166 iK_3 rfl rfl .here (.inr ⟨looki_out hd8, zero_4⟩)) ?_
        refine Ops.to rfl ?_
        refine Cd.cond_f rfl ?_
        refine Cd.skipTo rfl ?_
        refine Cd.region ?_
        refine Ops.q (q_mv rfl) ?_
        refine Ops.q (q_mv rfl) ?_
        refine Ops.mpu mpT_166 iK_3 rfl rfl rfl .here ?_
        refine Ops.to rfl ?_
        refine Cd.region ?_
        refine Ops.q (q_ar rfl rfl (a_inc (by omega))) ?_
        refine Ops.q (q_mv rfl) ?_
        refine Ops.rnd (k + 1) rfl (⟨by omega, nodup_step hx5 hI.2 hd8⟩) (by omega) ⟨rfl, rfl, rfl, rfl, trivial⟩ (fun _ hs => by have h1 := ((hs.pull (.there .here)).pull (.there .here)); rw [updI_out hd8] at h1; rw [List.take_add_one, hx5]; exact h1) 
    · refine Ops.q (q_cmp rfl rfl (c_nlt (by omega))) ?_
      refine Ops.to rfl ?_
      refine Cd.seq ?_
      refine Cd.cond_f rfl ?_
      refine Cd.exitTo rfl ?_
      refine Cd.seq ?_
      refine Cd.region ?_
      refine Ops.q (q_asg rfl) ?_
      refine Ops.to rfl ?_
      refine Cd.rt (fn := Try.f64) [.int .i64 0] (by with_reducible repeat (first | exact rq_here | apply rq_then | apply rq_block)) rfl ⟨rfl, trivial⟩ ?_
      intro w' hs'
      rw [show setE n xs = 0 by unfold setE; rw [if_pos (fun y hy => Decidable.of_not_not (fun hne => hc2 ⟨y, hy, hne⟩)), if_pos (by have := hI.2; rwa [List.take_of_length_le (by omega)] at this)]]
      exact ⟨rfl, ((hs'.pull (.there .here)).pull (.there .here)).drop⟩
end Go.Proofs.Ytilcdghliigngaa
namespace Go.Proofs.Ytilcdghliigngaa
open Go.RowKit Go.Proofs.YtilcdghliigngaaGl Go.Proofs.YtilcdghliigngaaPm
set_option linter.unusedVariables false
set_option linter.unusedSimpArgs false
abbrev CL := NL × Int
abbrev clP (l : CL) : List Int × Int := (l.1.2, l.2)
def eCl (l : CL) : List Value := [.slice l.1.1.1 l.1.2.length l.1.1.2, .int .i64 l.2]
theorem eCl_len (l : CL) : (eCl l).length = 2 := rfl
def RoCL (w : World) (a : Option Addr) (ls : List CL) : Prop := RoL w a eCl ls ∧ ∀ l ∈ ls, RoL w l.1.1.1 eInt l.1.2
theorem RoCL.later {w w' : World} {a : Option Addr} {ls : List CL} (h : RoCL w a ls) (hb : Below w.heap.size w w') : RoCL w' a ls := ⟨RoL.later h.1 hb, fun l hl => RoL.later (h.2 l hl) hb⟩
def claE (n : Int) (c : List Int × Int) : Int := if 16 < c.1.length then 9 else if setE n c.1 ≠ 0 then setE n c.1 else if wi c.2 (-1) (n - 1) then 0 else 4
def clS (m c : Nat) (x : List Int × Int) : List Syn :=
  (x.1.map (fun t : Int => (⟨t, ((m + 1 + c : Nat) : Int), 1, 1⟩ : Syn)) ++ (if x.1.length = 0 then [⟨-1 - 0, ((m + 1 + c : Nat) : Int), 1, 1⟩] else [])) ++ [⟨((m + 1 + c : Nat) : Int), if x.2 < 0 then (m : Int) else x.2, 1, 1⟩]
def clTo (m : Nat) (cs : List (List Int × Int)) (k : Nat) : List Syn := (List.range k).flatMap fun c => clS m c (cs.getD c ([], 0))
def hornP (n : Int) (cs : List (List Int × Int)) : Except Int NetP :=
  if wi n 1 256 then
    if 512 < cs.length then .error 9
    else if firstE (claE n) cs ≠ 0 then .error (firstE (claE n) cs)
    else .ok ⟨List.replicate (n.toNat + 1) (onceP 1) ++ cs.map (fun c => onceP (max 1 (c.1.length : Int))), 1, selvesFrom 0 (n.toNat + 1 + cs.length) ++ clTo n.toNat cs cs.length⟩
  else .error 3
theorem clS_len (m c : Nat) (x : List Int × Int) : (clS m c x).length ≤ x.1.length + 2 := by
  unfold clS
  simp only [List.length_append, List.length_map, List.length_cons, List.length_nil]
  split <;> simp
theorem clTo_len {m : Nat} {cs : List (List Int × Int)} (h : ∀ x ∈ cs, x.1.length ≤ 16) : ∀ k, k ≤ cs.length → (clTo m cs k).length ≤ k * 18
  | 0, _ => by simp [clTo]
  | k + 1, hk => by
    have ih := clTo_len (m := m) h k (by omega)
    unfold clTo at ih ⊢
    rw [rf_app, List.length_append]
    obtain ⟨x, hx⟩ : ∃ x, cs[k]? = some x := ⟨_, List.getElem?_eq_getElem (by omega)⟩
    rw [getD_at hx]
    have h1 := clS_len m k x
    have h2 := h x (List.mem_iff_getElem?.2 ⟨k, hx⟩)
    omega
theorem cl_stepE {m q : Nat} {cs : List (List Int × Int)} {xr : List Int} {xt to : Int} (h : cs[q]? = some (xr, xt)) (h0 : xr.length = 0) (ht : (if xt < 0 then (m : Int) else xt) = to) (X : List Syn) :
    X ++ clTo m cs (q + 1) = (((X ++ clTo m cs q) ++ xr.map (fun t : Int => (⟨t, ((m + 1 + q : Nat) : Int), 1, 1⟩ : Syn))) ++ [⟨-1 - 0, ((m + 1 + q : Nat) : Int), 1, 1⟩]) ++ [⟨((m + 1 + q : Nat) : Int), to, 1, 1⟩] := by
  unfold clTo
  rw [rf_app, getD_at h, clS, if_pos h0, ht]
  simp
theorem cl_stepN {m q : Nat} {cs : List (List Int × Int)} {xr : List Int} {xt to : Int} (h : cs[q]? = some (xr, xt)) (h0 : ¬ xr.length = 0) (ht : (if xt < 0 then (m : Int) else xt) = to) (X : List Syn) :
    X ++ clTo m cs (q + 1) = ((X ++ clTo m cs q) ++ xr.map (fun t : Int => (⟨t, ((m + 1 + q : Nat) : Int), 1, 1⟩ : Syn))) ++ [⟨((m + 1 + q : Nat) : Int), to, 1, 1⟩] := by
  unfold clTo
  rw [rf_app, getD_at h, clS, if_neg h0, ht]
  simp
theorem claE_9 {n : Int} {c : List Int × Int} (h : 16 < c.1.length) : claE n c = 9 := by unfold claE; rw [if_pos h]
theorem claE_s {n : Int} {c : List Int × Int} (h : ¬ 16 < c.1.length) (h2 : ¬ setE n c.1 = 0) : claE n c = setE n c.1 := by unfold claE; rw [if_neg h, if_pos h2]
theorem claE_4 {n : Int} {c : List Int × Int} (h : ¬ 16 < c.1.length) (h2 : setE n c.1 = 0) (h3 : ¬ wi c.2 (-1) (n - 1)) : claE n c = 4 := by unfold claE; rw [if_neg h, if_neg (by simpa using h2), if_neg h3]
theorem claE_0 {n : Int} {c : List Int × Int} (h : ¬ 16 < c.1.length) (h2 : setE n c.1 = 0) (h3 : wi c.2 (-1) (n - 1)) : claE n c = 0 := by unfold claE; rw [if_neg h, if_neg (by simpa using h2), if_pos h3]
theorem claE_16 {n : Int} {c : List Int × Int} (h : claE n c = 0) : c.1.length ≤ 16 := by
  unfold claE at h
  split at h
  · cases h
  · omega
theorem horn_c (n : Int) (la : Option Addr) (lc : Nat) (ls : List CL) (w : World) (hL : RoCL w la ls) : Calls Try.prog 26 [.int .i64 n, .slice la ls.length lc].toArray w (RetR (hornP n (ls.map clP)) w) := by
  refine fstart Try.func26 rfl rfl (Sat.nil w) ?_
  refine Cd.seq ?_
  refine Cd.region ?_
  refine Ops.alc [.slice none 0 0, .int .i64 0, .slice none 0 0] zc_32 ?_
  intro b1
  refine Ops.q (q_asg rfl) ?_
  refine Ops.to rfl ?_
  refine Cd.seq ?_
  refine Cd.block ?_
  refine Cd.seq ?_
  refine Cd.region ?_
  refine Ops.q (q_mv rfl) ?_
  by_cases h2 : wi n 1 256
  · refine Ops.cp en_57 rfl (fun w hs => dT (in_c _ _ _ w) h2) ?_
    refine Ops.q (q_not rfl) ?_
    refine Ops.q (q_asg rfl) ?_
    refine Ops.to rfl ?_
    refine Cd.cond_f rfl ?_
    refine Cd.seq ?_
    refine Cd.region ?_
    obtain ⟨m, rfl⟩ : ∃ j : Nat, n = (j : Int) := ⟨n.toNat, by unfold wi at h2; omega⟩
    have hm : 1 ≤ m ∧ m ≤ 256 := by unfold wi at h2; omega
    refine Ops.q (q_mv rfl) ?_
    refine Ops.q (q_len esz_52 rfl) ?_
    by_cases h3 : 512 < (ls.length : Int)
    · refine Ops.q (q_cmp rfl rfl (c_gt h3)) ?_
      refine Ops.q (q_asg rfl) ?_
      refine Ops.to rfl ?_
      refine Cd.cond_t rfl ?_
      refine Cd.seq ?_
      refine Cd.region ?_
      refine Ops.q (q_bld [.slice none 0 0, .int .i64 0, .slice none 0 0] pls_32 zc_32 rfl rfl) ?_
      refine Ops.stB [.slice none 0 0, .int .i64 0, .slice none 0 0] [.slice none 0 0, .int .i64 0, .slice none 0 0] sz_32 rfl rfl rfl (one rfl) .here rfl rfl ?_
      refine Ops.q (q_asg rfl) ?_
      refine Ops.to rfl ?_
      refine Cd.rt (fn := Try.f26) [.agg [.slice none 0 0, .int .i64 0, .slice none 0 0].toArray, .int .i64 9] (by with_reducible repeat (first | exact rq_here | apply rq_then | apply rq_block)) rfl ⟨⟨_, _, rfl, fun _ hs => run_loadN isA_32 sz_32 (fun o u hu => Sat.atB .here (by rw [Nat.zero_add]; exact hu) hs)⟩, rfl, trivial⟩ ?_
      intro w' hs'
      rw [show hornP (m : Int) (ls.map clP) = .error 9 by unfold hornP; rw [if_pos h2, if_pos (by rw [List.length_map]; omega)]]
      exact ⟨rfl, hs'.none⟩
    · refine Ops.q (q_cmp rfl rfl (c_ngt (by omega))) ?_
      refine Ops.q (q_asg rfl) ?_
      refine Ops.to rfl ?_
      refine Cd.cond_f rfl ?_
      refine Cd.skipTo rfl ?_
      refine Cd.seq ?_
      refine Cd.region ?_
      refine Ops.q (q_bld [.slice none 0 0, .int .i64 1, .slice none 0 0] pls_32 zc_32 rfl rfl) ?_
      refine Ops.q (q_bld [.slice none 0 0, .int .i64 1, .slice none 0 0] pls_114 zc_114 rfl rfl) ?_
      refine Ops.alc [.slice none 0 0, .int .i64 0, .slice none 0 0] zc_114 ?_
      intro b4
      refine Ops.stB [.slice none 0 0, .int .i64 1, .slice none 0 0] [.slice none 0 0, .int .i64 1, .slice none 0 0] sz_114 rfl rfl rfl (one rfl) .here rfl rfl ?_
      refine Ops.to rfl ?_
      refine Cd.seq ?_
      refine Cd.nilRow 126 4 ?_
      refine Cd.nilRow 116 8 ?_
      change Cd _ _ _ _ _ _ _ _ ([row none 0 116 8 (([] : List Prm).length) (([] : List Prm).flatMap ePrm), row none 0 126 4 (([] : List Syn).length) (([] : List Syn).flatMap eSyn), blk b4 114 [.slice none (([] : List Prm).length) 0, .int .i64 1, .slice none (([] : List Syn).length) 0], blk b1 32 [.slice none 0 0, .int .i64 0, .slice none 0 0]])
      refine Cd.region ?_
      refine Ops.cp en_60 rfl (fun w hs => once_c w) ?_
      refine Ops.cl (α := Nat × Nat) (v := fun x => .func (.func 86) #[] #[.pointer (some ⟨x.1, 0, none⟩), .pointer (some ⟨x.2, 0, none⟩)]) (B := fun x => [blk x.1 116 (ePrm (onceP 0)), blk x.2 161 [.pointer (some ⟨b4, 0, none⟩)]]) en_49 rfl (fun w hs => grow_c b4 (onceP 0) w) ?_
      rintro ⟨pb5, bb6⟩
      refine Ops.q (q_asg rfl) ?_
      refine Ops.to rfl ?_
      refine Cd.seq ?_
      refine Cd.region ?_
      refine Ops.q (q_mv rfl) ?_
      refine Ops.lit [.int .i64 1] el_26 zsb_3 rfl rfl ⟨by decide, by decide⟩ rfl ?_
      intro b7
      refine Ops.q (q_mv rfl) ?_
      refine Ops.q (q_ar (v := ((m + 1 : Nat) : Int)) rfl rfl (a_inc (by omega))) ?_
      refine Ops.cm (α := Option Addr × Nat) (v := fun p => .slice p.1 (List.replicate (m + 1) (1 : Int)).length p.2) (A' := fun p => row p.1 p.2 3 1 (List.replicate (m + 1) (1 : Int)).length ((List.replicate (m + 1) (1 : Int)).flatMap eInt) :: [row (some ⟨b7, 0, none⟩) 1 3 1 1 [.int .i64 1], blk pb5 116 (ePrm (onceP 0)), blk bb6 161 [.pointer (some ⟨b4, 0, none⟩)], row none 0 116 8 (([] : List Prm).length) (([] : List Prm).flatMap ePrm), row none 0 126 4 (([] : List Syn).length) (([] : List Syn).flatMap eSyn), blk b4 114 [.slice none (([] : List Prm).length) 0, .int .i64 1, .slice none (([] : List Syn).length) 0], blk b1 32 [.slice none 0 0, .int .i64 0, .slice none 0 0]]) en_52 rfl (fun w hs => repeat_l b7 1 (m + 1) _ w _ (by omega) ((((((((hs.pull (.there (.there (.there (.there (.there (.there .here))))))).pull (.there (.there (.there (.there (.there (.there .here))))))).pull (.there (.there (.there (.there (.there (.there .here))))))).pull (.there (.there (.there (.there (.there (.there .here))))))).pull (.there (.there (.there (.there (.there (.there .here))))))).pull (.there (.there (.there (.there (.there (.there .here))))))).pull (.there (.there (.there (.there (.there (.there .here))))))))) ?_
      rintro ⟨a8, c9⟩
      refine Ops.cv (α := Option Addr × Nat) (k := 86) (first := []) (caps := [.pointer (some ⟨pb5, 0, none⟩), .pointer (some ⟨bb6, 0, none⟩)]) (vs := [.slice a8 ((List.replicate (m + 1) (1 : Int)).length) c9]) (v := fun _ => .tuple #[]) (A' := fun p => [blk b4 114 [.slice p.1 ((([] : List Prm) ++ (List.replicate (m + 1) (1 : Int)).map (setTh (onceP 0))).length) p.2, .int .i64 1, .slice none (([] : List Syn).length) 0], row p.1 p.2 116 8 ((([] : List Prm) ++ (List.replicate (m + 1) (1 : Int)).map (setTh (onceP 0))).length) ((([] : List Prm) ++ (List.replicate (m + 1) (1 : Int)).map (setTh (onceP 0))).flatMap ePrm), row none 0 126 4 (([] : List Syn).length) (([] : List Syn).flatMap eSyn), blk pb5 116 (ePrm (onceP 0)), blk bb6 161 [.pointer (some ⟨b4, 0, none⟩)], row a8 c9 3 1 ((List.replicate (m + 1) (1 : Int)).length) ((List.replicate (m + 1) (1 : Int)).flatMap eInt), row (some ⟨b7, 0, none⟩) 1 3 1 1 [.int .i64 1], blk b1 32 [.slice none 0 0, .int .i64 0, .slice none 0 0]]) en_86 rfl rfl (fun w hs => grown_c b4 _ _ _ _ ([] : List Prm) _ ([] : List Syn) pb5 bb6 _ _ (List.replicate (m + 1) (1 : Int)) _ _ w _ (by simp only [List.length_append, List.length_map, List.length_take, List.length_cons, List.length_nil, List.length_replicate, selves_len]; omega) (((((((((hs.pull (.there (.there (.there (.there (.there (.there (.there .here)))))))).pull (.there (.there .here))).pull (.there (.there .here))).pull (.there (.there (.there (.there .here))))).pull (.there (.there (.there (.there .here))))).pull (.there (.there (.there (.there (.there (.there .here))))))).pull (.there (.there (.there (.there (.there (.there .here))))))).pull (.there (.there (.there (.there (.there (.there (.there .here)))))))))) ?_
      rintro ⟨a10, c11⟩
      refine Ops.to rfl ?_
      refine Cd.seq ?_
      refine Cd.seq ?_
      refine Cd.region ?_
      refine Ops.q (q_mv rfl) ?_
      refine Ops.q (q_len esz_52 rfl) ?_
      refine Ops.q (q_mv rfl) ?_
      refine Ops.to rfl ?_
      refine Cd.block ?_
      refine Cd.lp (σ := Nat × Option Addr × Nat) (fun s => s.1 ≤ ls.length ∧ firstE (claE (m : Int)) ((ls.map clP).drop s.1) = firstE (claE (m : Int)) (ls.map clP)) (fun s => [(0, .int .i64 (m : Int)), (1, .slice la ls.length lc), (4, .pointer (some ⟨b1, 0, none⟩)), (6, .pointer (some ⟨b4, 0, none⟩)), (7, .func (.func 86) #[] #[.pointer (some ⟨pb5, 0, none⟩), .pointer (some ⟨bb6, 0, none⟩)]), (36, .slice la ls.length lc), (37, .int .i64 (ls.length : Int)), (38, .int .i64 (s.1 : Int))]) (fun s => [blk b4 114 [.slice s.2.1 (((([] : List Prm) ++ (List.replicate (m + 1) (1 : Int)).map (setTh (onceP 0))) ++ (ls.take s.1).map (fun l : CL => setTh (onceP 0) (max 1 (l.1.2.length : Int)))).length) s.2.2, .int .i64 1, .slice none (([] : List Syn).length) 0], row s.2.1 s.2.2 116 8 (((([] : List Prm) ++ (List.replicate (m + 1) (1 : Int)).map (setTh (onceP 0))) ++ (ls.take s.1).map (fun l : CL => setTh (onceP 0) (max 1 (l.1.2.length : Int)))).length) (((([] : List Prm) ++ (List.replicate (m + 1) (1 : Int)).map (setTh (onceP 0))) ++ (ls.take s.1).map (fun l : CL => setTh (onceP 0) (max 1 (l.1.2.length : Int)))).flatMap ePrm), row none 0 126 4 (([] : List Syn).length) (([] : List Syn).flatMap eSyn), blk pb5 116 (ePrm (onceP 0)), blk bb6 161 [.pointer (some ⟨b4, 0, none⟩)], blk b1 32 [.slice none 0 0, .int .i64 0, .slice none 0 0]]) (fun s => ls.length - s.1) (0, a10, c11) ⟨Nat.zero_le _, rfl⟩ ⟨rfl, rfl, rfl, rfl, rfl, rfl, rfl, rfl, trivial⟩ (fun _ hs => by have h1 := ((((((((hs.pull (.there (.there (.there (.there (.there (.there (.there .here)))))))).pull (.there (.there (.there (.there (.there .here)))))).pull (.there (.there (.there (.there (.there .here)))))).pull (.there (.there (.there (.there (.there .here)))))).pull (.there (.there (.there (.there (.there .here)))))).pull (.there (.there (.there (.there (.there .here)))))).pull (.there (.there (.there (.there (.there (.there .here))))))).drop.pull (.there (.there (.there (.there (.there (.there .here))))))).drop; dsimp only; rw [show ((([] : List Prm) ++ (List.replicate (m + 1) (1 : Int)).map (setTh (onceP 0))) ++ (ls.take 0).map (fun l : CL => setTh (onceP 0) (max 1 (l.1.2.length : Int)))) = (([] : List Prm) ++ (List.replicate (m + 1) (1 : Int)).map (setTh (onceP 0))) from List.append_nil _]; exact h1) ?_
      rintro ⟨k, pa, pc⟩ hI
      dsimp only at hI
      change Cd _ _ _ _ _ _ _ [(0, .int .i64 (m : Int)), (1, .slice la ls.length lc), (4, .pointer (some ⟨b1, 0, none⟩)), (6, .pointer (some ⟨b4, 0, none⟩)), (7, .func (.func 86) #[] #[.pointer (some ⟨pb5, 0, none⟩), .pointer (some ⟨bb6, 0, none⟩)]), (36, .slice la ls.length lc), (37, .int .i64 (ls.length : Int)), (38, .int .i64 (k : Int))] ([blk b4 114 [.slice pa (((([] : List Prm) ++ (List.replicate (m + 1) (1 : Int)).map (setTh (onceP 0))) ++ (ls.take k).map (fun l : CL => setTh (onceP 0) (max 1 (l.1.2.length : Int)))).length) pc, .int .i64 1, .slice none (([] : List Syn).length) 0], row pa pc 116 8 (((([] : List Prm) ++ (List.replicate (m + 1) (1 : Int)).map (setTh (onceP 0))) ++ (ls.take k).map (fun l : CL => setTh (onceP 0) (max 1 (l.1.2.length : Int)))).length) (((([] : List Prm) ++ (List.replicate (m + 1) (1 : Int)).map (setTh (onceP 0))) ++ (ls.take k).map (fun l : CL => setTh (onceP 0) (max 1 (l.1.2.length : Int)))).flatMap ePrm), row none 0 126 4 (([] : List Syn).length) (([] : List Syn).flatMap eSyn), blk pb5 116 (ePrm (onceP 0)), blk bb6 161 [.pointer (some ⟨b4, 0, none⟩)], blk b1 32 [.slice none 0 0, .int .i64 0, .slice none 0 0]])
      have hI1 := hI.1
      refine Cd.seq ?_
      refine Cd.region ?_
      by_cases hk : (k : Int) < (ls.length : Int)
      · refine Ops.q (q_cmp rfl rfl (c_lt hk)) ?_
        obtain ⟨⟨⟨⟨xa, xc⟩, xr⟩, xt⟩, hx⟩ : ∃ x, ls[k]? = some x := ⟨_, List.getElem?_eq_getElem (by omega)⟩
        have hxe : RoL w xa eInt xr := hL.2 _ (List.mem_iff_getElem?.2 ⟨k, hx⟩)
        skip
        have hxq : (ls.map clP)[k]? = some (xr, xt) := by rw [List.getElem?_map, hx]; rfl
        obtain ⟨lb, lo, rfl⟩ := RoL.pos hL.1 eCl_len hx
        refine Ops.to rfl ?_
        refine Cd.seq ?_
        refine Cd.cond_t rfl ?_
        refine Cd.skipTo rfl ?_
        refine Cd.seq ?_
        refine Cd.block ?_
        refine Cd.seq ?_
        refine Cd.region ?_
        refine Ops.q (q_ix (k := k) esz_52 rfl rfl (by omega)) ?_
        refine Ops.q (q_ldRN [.slice xa xr.length xc, .int .i64 xt] isA_55 sz_55 rfl (fun j u hu => hL.1.at eCl_len hx hu)) ?_
        refine Ops.alc [.slice none 0 0, .int .i64 0] zc_55 ?_
        intro b12
        refine Ops.stB [.slice xa xr.length xc, .int .i64 xt] [.slice xa xr.length xc, .int .i64 xt] sz_55 rfl rfl rfl (one rfl) .here rfl rfl ?_
        refine Ops.to rfl ?_
        refine Cd.seq ?_
        refine Cd.seq ?_
        refine Cd.region ?_
        refine Ops.q (q_fa fo_55_0 rfl) ?_
        refine Ops.q (q_ldB isA_26 rfl .here rfl) ?_
        refine Ops.q (q_len esz_26 rfl) ?_
        by_cases hx16 : 16 < (xr.length : Int)
        · refine Ops.q (q_cmp rfl rfl (c_gt hx16)) ?_
          refine Ops.to rfl ?_
          refine Cd.cond_t rfl ?_
          refine Cd.seq ?_
          refine Cd.region ?_
          refine Ops.q (q_bld [.slice none 0 0, .int .i64 0, .slice none 0 0] pls_32 zc_32 rfl rfl) ?_
          refine Ops.stB [.slice none 0 0, .int .i64 0, .slice none 0 0] [.slice none 0 0, .int .i64 0, .slice none 0 0] sz_32 rfl rfl rfl (one rfl) (.there (.there (.there (.there (.there (.there .here)))))) rfl rfl ?_
          refine Ops.q (q_asg rfl) ?_
          refine Ops.to rfl ?_
          refine Cd.rt (fn := Try.f26) [.agg [.slice none 0 0, .int .i64 0, .slice none 0 0].toArray, .int .i64 9] (by with_reducible repeat (first | exact rq_here | apply rq_then | apply rq_block)) rfl ⟨⟨_, _, rfl, fun _ hs => run_loadN isA_32 sz_32 (fun o u hu => Sat.atB (.there (.there (.there (.there (.there (.there .here)))))) (by rw [Nat.zero_add]; exact hu) hs)⟩, rfl, trivial⟩ ?_
          intro w' hs'
          have h8 : claE (m : Int) (xr, xt) = 9 := claE_9 (by show 16 < xr.length; omega)
          have h9 : firstE (claE (m : Int)) (ls.map clP) = 9 := by rw [← hI.2, firstE_stop hxq (by rw [h8]; decide), h8]
          rw [show hornP (m : Int) (ls.map clP) = .error (9) by unfold hornP; rw [if_pos h2, if_neg (by rw [List.length_map]; omega), h9, if_pos (by decide)]]
          exact ⟨rfl, hs'.none⟩
        · refine Ops.q (q_cmp rfl rfl (c_ngt (by omega))) ?_
          refine Ops.to rfl ?_
          refine Cd.cond_f rfl ?_
          refine Cd.skipTo rfl ?_
          refine Cd.seq ?_
          refine Cd.seq ?_
          refine Cd.draw rfl (by kernel_rfl) (.cons .here .nil) ?_
          intro F13 St14 hP15 hF16 hR17
          refine Dr.q (i := 0) hP15 rfl (by kernel_rfl) (q_fa fo_55_0 rfl) ?_
          refine Dr.q (i := 1) hP15 rfl (by kernel_rfl) (q_ldB isA_26 rfl .here rfl) ?_
          refine Dr.q (i := 2) hP15 rfl (by kernel_rfl) (q_mv rfl) ?_
          refine Dr.e (i := 3) rfl (by kernel_rfl) ?_
          refine Ops.cl (α := Nat) (v := fun b => .func (.func 92) #[] #[.pointer (some ⟨b, 0, none⟩)]) (B := fun b => [blk b 3 [.int .i64 (m : Int)]]) en_65 rfl (fun w hs => below_c (m : Int) w) ?_
          intro bl18
          refine Dr.back (fun _ hs => hF16 (.there .here) hs) ?_
          refine Dr.e (i := 4) rfl (by kernel_rfl) ?_
          refine Ops.cm (α := Unit) (v := fun _ => .int .i64 (setE (m : Int) xr)) (A' := fun _ => [blk bl18 3 [.int .i64 (m : Int)], F13, blk b4 114 [.slice pa (((([] : List Prm) ++ (List.replicate (m + 1) (1 : Int)).map (setTh (onceP 0))) ++ (ls.take k).map (fun l : CL => setTh (onceP 0) (max 1 (l.1.2.length : Int)))).length) pc, .int .i64 1, .slice none (([] : List Syn).length) 0], row pa pc 116 8 (((([] : List Prm) ++ (List.replicate (m + 1) (1 : Int)).map (setTh (onceP 0))) ++ (ls.take k).map (fun l : CL => setTh (onceP 0) (max 1 (l.1.2.length : Int)))).length) (((([] : List Prm) ++ (List.replicate (m + 1) (1 : Int)).map (setTh (onceP 0))) ++ (ls.take k).map (fun l : CL => setTh (onceP 0) (max 1 (l.1.2.length : Int)))).flatMap ePrm), row none 0 126 4 (([] : List Syn).length) (([] : List Syn).flatMap eSyn), blk pb5 116 (ePrm (onceP 0)), blk bb6 161 [.pointer (some ⟨b4, 0, none⟩)], blk b1 32 [.slice none 0 0, .int .i64 0, .slice none 0 0]]) en_64 rfl (fun w hs => (different_c bl18 _ _ xr _ _ w _ hxe (by omega) (by omega) (((((((((hs.pull (.there (.there (.there (.there (.there (.there (.there .here)))))))).pull (.there (.there (.there (.there (.there (.there (.there .here)))))))).pull (.there (.there (.there (.there (.there (.there (.there .here)))))))).pull (.there (.there (.there (.there (.there (.there (.there .here)))))))).pull (.there (.there (.there (.there (.there (.there (.there .here)))))))).pull (.there (.there (.there (.there (.there (.there (.there .here)))))))).pull (.there (.there (.there (.there (.there (.there (.there .here)))))))).pull (.there (.there (.there (.there (.there (.there (.there .here)))))))))).mono fun e w' h => ⟨(), h.1, h.2⟩) ?_
          intro _
          refine Dr.back (fun _ hs => hF16 (.there .here) hs) ?_
          refine Dr.tail 5 (by kernel_rfl) ?_
          refine Ops.sat ?_ (fun _ hs => hR17 (.there .here) hs)
          refine Ops.q (q_asg rfl) ?_
          refine Ops.to rfl ?_
          refine Cd.seq ?_
          refine Cd.region ?_
          refine Ops.q (q_mv rfl) ?_
          by_cases hset : setE (m : Int) xr = 0
          · refine Ops.q (q_cmp rfl rfl (c_nne hset)) ?_
            refine Ops.to rfl ?_
            refine Cd.cond_f rfl ?_
            refine Cd.skipTo rfl ?_
            refine Cd.seq ?_
            refine Cd.seq ?_
            refine Cd.region ?_
            refine Ops.q (q_fa fo_55_1 rfl) ?_
            refine Ops.q (q_ldB isA_3 rfl .here rfl) ?_
            refine Ops.q (q_mv rfl) ?_
            refine Ops.q (q_ar (v := (m : Int) - 1) rfl rfl (a_sub (by omega))) ?_
            by_cases h19 : wi xt (-1) ((m : Int) - 1)
            · refine Ops.cp en_57 rfl (fun w hs => dT (in_c _ _ _ w) h19) ?_
              refine Ops.q (q_not rfl) ?_
              refine Ops.to rfl ?_
              refine Cd.cond_f rfl ?_
              refine Cd.skipTo rfl ?_
              refine Cd.region ?_
              refine Ops.q (q_mv rfl) ?_
              refine Ops.q (q_fa fo_55_0 rfl) ?_
              refine Ops.q (q_ldB isA_26 rfl .here rfl) ?_
              refine Ops.q (q_len esz_26 rfl) ?_
              refine Ops.q (q_max rfl rfl) ?_
              refine Ops.lit [.int .i64 (max 1 (xr.length : Int))] el_26 zsb_3 rfl rfl ⟨by decide, by decide⟩ rfl ?_
              intro b20
              refine Ops.cv (α := Option Addr × Nat) (k := 86) (first := []) (caps := [.pointer (some ⟨pb5, 0, none⟩), .pointer (some ⟨bb6, 0, none⟩)]) (vs := [.slice (some ⟨b20, 0, none⟩) ([max 1 (xr.length : Int)].length) 1]) (v := fun _ => .tuple #[]) (A' := fun p => [blk b4 114 [.slice p.1 ((((([] : List Prm) ++ (List.replicate (m + 1) (1 : Int)).map (setTh (onceP 0))) ++ (ls.take k).map (fun l : CL => setTh (onceP 0) (max 1 (l.1.2.length : Int)))) ++ [max 1 (xr.length : Int)].map (setTh (onceP 0))).length) p.2, .int .i64 1, .slice none (([] : List Syn).length) 0], row p.1 p.2 116 8 ((((([] : List Prm) ++ (List.replicate (m + 1) (1 : Int)).map (setTh (onceP 0))) ++ (ls.take k).map (fun l : CL => setTh (onceP 0) (max 1 (l.1.2.length : Int)))) ++ [max 1 (xr.length : Int)].map (setTh (onceP 0))).length) ((((([] : List Prm) ++ (List.replicate (m + 1) (1 : Int)).map (setTh (onceP 0))) ++ (ls.take k).map (fun l : CL => setTh (onceP 0) (max 1 (l.1.2.length : Int)))) ++ [max 1 (xr.length : Int)].map (setTh (onceP 0))).flatMap ePrm), row none 0 126 4 (([] : List Syn).length) (([] : List Syn).flatMap eSyn), blk pb5 116 (ePrm (onceP 0)), blk bb6 161 [.pointer (some ⟨b4, 0, none⟩)], row (some ⟨b20, 0, none⟩) 1 3 1 ([max 1 (xr.length : Int)].length) ([max 1 (xr.length : Int)].flatMap eInt), blk b12 55 [.slice xa xr.length xc, .int .i64 xt], blk bl18 3 [.int .i64 (m : Int)], blk b1 32 [.slice none 0 0, .int .i64 0, .slice none 0 0]]) en_86 rfl rfl (fun w hs => grown_c b4 _ _ _ _ ((([] : List Prm) ++ (List.replicate (m + 1) (1 : Int)).map (setTh (onceP 0))) ++ (ls.take k).map (fun l : CL => setTh (onceP 0) (max 1 (l.1.2.length : Int)))) _ ([] : List Syn) pb5 bb6 _ _ [max 1 (xr.length : Int)] _ _ w _ (by simp only [List.length_append, List.length_map, List.length_take, List.length_cons, List.length_nil, List.length_replicate, selves_len]; omega) ((((((((((hs.pull (.there (.there (.there (.there (.there (.there (.there (.there .here))))))))).pull (.there (.there (.there .here)))).pull (.there (.there (.there .here)))).pull (.there (.there (.there .here)))).pull (.there (.there (.there (.there (.there (.there (.there (.there .here))))))))).pull (.there (.there (.there (.there (.there (.there (.there (.there .here))))))))).pull (.there (.there (.there (.there (.there (.there (.there (.there .here))))))))).pull (.there (.there (.there (.there (.there (.there (.there (.there .here))))))))).pull (.there (.there (.there (.there (.there (.there (.there (.there .here))))))))))) ?_
              rintro ⟨a21, c22⟩
              refine Ops.to rfl ?_
              refine Cd.region ?_
              refine Ops.q (q_ar rfl rfl (a_inc (by omega))) ?_
              refine Ops.q (q_mv rfl) ?_
              refine Ops.rnd ((k + 1, a21, c22)) rfl (by dsimp only; exact (⟨by omega, by rw [← hI.2]; exact (firstE_step hxq (claE_0 (by show ¬ 16 < xr.length; omega) hset h19)).symm⟩)) (by dsimp only; omega) ⟨rfl, rfl, rfl, rfl, rfl, rfl, rfl, rfl, trivial⟩ (fun _ hs => by have h1 := (((((((((hs.pull (.there (.there (.there (.there (.there (.there (.there (.there .here))))))))).pull (.there (.there (.there (.there (.there .here)))))).pull (.there (.there (.there (.there (.there .here)))))).pull (.there (.there (.there (.there (.there .here)))))).pull (.there (.there (.there (.there (.there .here)))))).pull (.there (.there (.there (.there (.there .here)))))).pull (.there (.there (.there (.there (.there (.there .here))))))).drop.pull (.there (.there (.there (.there (.there (.there .here))))))).drop.pull (.there (.there (.there (.there (.there (.there .here))))))).drop; dsimp only; rw [mapT _ hx, ← List.append_assoc]; exact h1) 
            · refine Ops.cp en_57 rfl (fun w hs => dF (in_c _ _ _ w) h19) ?_
              refine Ops.q (q_not rfl) ?_
              refine Ops.to rfl ?_
              refine Cd.cond_t rfl ?_
              refine Cd.seq ?_
              refine Cd.region ?_
              refine Ops.q (q_bld [.slice none 0 0, .int .i64 0, .slice none 0 0] pls_32 zc_32 rfl rfl) ?_
              refine Ops.stB [.slice none 0 0, .int .i64 0, .slice none 0 0] [.slice none 0 0, .int .i64 0, .slice none 0 0] sz_32 rfl rfl rfl (one rfl) (.there (.there (.there (.there (.there (.there (.there .here))))))) rfl rfl ?_
              refine Ops.q (q_asg rfl) ?_
              refine Ops.to rfl ?_
              refine Cd.rt (fn := Try.f26) [.agg [.slice none 0 0, .int .i64 0, .slice none 0 0].toArray, .int .i64 4] (by with_reducible repeat (first | exact rq_here | apply rq_then | apply rq_block)) rfl ⟨⟨_, _, rfl, fun _ hs => run_loadN isA_32 sz_32 (fun o u hu => Sat.atB (.there (.there (.there (.there (.there (.there (.there .here))))))) (by rw [Nat.zero_add]; exact hu) hs)⟩, rfl, trivial⟩ ?_
              intro w' hs'
              have h8 : claE (m : Int) (xr, xt) = 4 := claE_4 (by show ¬ 16 < xr.length; omega) hset h19
              have h9 : firstE (claE (m : Int)) (ls.map clP) = 4 := by rw [← hI.2, firstE_stop hxq (by rw [h8]; decide), h8]
              rw [show hornP (m : Int) (ls.map clP) = .error (4) by unfold hornP; rw [if_pos h2, if_neg (by rw [List.length_map]; omega), h9, if_pos (by decide)]]
              exact ⟨rfl, hs'.none⟩
          · refine Ops.q (q_cmp rfl rfl (c_ne hset)) ?_
            refine Ops.to rfl ?_
            refine Cd.cond_t rfl ?_
            refine Cd.seq ?_
            refine Cd.region ?_
            refine Ops.q (q_bld [.slice none 0 0, .int .i64 0, .slice none 0 0] pls_32 zc_32 rfl rfl) ?_
            refine Ops.q (q_mv rfl) ?_
            refine Ops.stB [.slice none 0 0, .int .i64 0, .slice none 0 0] [.slice none 0 0, .int .i64 0, .slice none 0 0] sz_32 rfl rfl rfl (one rfl) (.there (.there (.there (.there (.there (.there (.there .here))))))) rfl rfl ?_
            refine Ops.q (q_asg rfl) ?_
            refine Ops.to rfl ?_
            refine Cd.rt (fn := Try.f26) [.agg [.slice none 0 0, .int .i64 0, .slice none 0 0].toArray, .int .i64 (setE (m : Int) xr)] (by with_reducible repeat (first | exact rq_here | apply rq_then | apply rq_block)) rfl ⟨⟨_, _, rfl, fun _ hs => run_loadN isA_32 sz_32 (fun o u hu => Sat.atB (.there (.there (.there (.there (.there (.there (.there .here))))))) (by rw [Nat.zero_add]; exact hu) hs)⟩, rfl, trivial⟩ ?_
            intro w' hs'
            have h8 : claE (m : Int) (xr, xt) = setE (m : Int) xr := claE_s (by show ¬ 16 < xr.length; omega) hset
            have h9 : firstE (claE (m : Int)) (ls.map clP) = setE (m : Int) xr := by rw [← hI.2, firstE_stop hxq (by rw [h8]; exact hset), h8]
            rw [show hornP (m : Int) (ls.map clP) = .error (setE (m : Int) xr) by unfold hornP; rw [if_pos h2, if_neg (by rw [List.length_map]; omega), h9, if_pos (by exact hset)]]
            exact ⟨rfl, hs'.none⟩
      · refine Ops.q (q_cmp rfl rfl (c_nlt (by omega))) ?_
        have h9 : firstE (claE (m : Int)) (ls.map clP) = 0 := by rw [← hI.2, firstE_end (by rw [List.length_map]; omega)]
        have h16 : ∀ x ∈ (ls.map clP), x.1.length ≤ 16 := fun x hx => claE_16 (firstE_zero h9 x hx)
        refine Ops.to rfl ?_
        refine Cd.seq ?_
        refine Cd.cond_f rfl ?_
        refine Cd.exitTo rfl ?_
        refine Cd.seq ?_
        refine Cd.region ?_
        refine Ops.cm (α := Option Addr × Nat) (v := fun _ => .tuple #[]) (A' := fun p => [blk b4 114 [.slice pa (((([] : List Prm) ++ (List.replicate (m + 1) (1 : Int)).map (setTh (onceP 0))) ++ (ls.take k).map (fun l : CL => setTh (onceP 0) (max 1 (l.1.2.length : Int)))).length) pc, .int .i64 1, .slice p.1 ((([] : List Syn) ++ selvesFrom 0 ((([] : List Prm) ++ (List.replicate (m + 1) (1 : Int)).map (setTh (onceP 0))) ++ (ls.take k).map (fun l : CL => setTh (onceP 0) (max 1 (l.1.2.length : Int)))).length).length) p.2], row pa pc 116 8 (((([] : List Prm) ++ (List.replicate (m + 1) (1 : Int)).map (setTh (onceP 0))) ++ (ls.take k).map (fun l : CL => setTh (onceP 0) (max 1 (l.1.2.length : Int)))).length) (((([] : List Prm) ++ (List.replicate (m + 1) (1 : Int)).map (setTh (onceP 0))) ++ (ls.take k).map (fun l : CL => setTh (onceP 0) (max 1 (l.1.2.length : Int)))).flatMap ePrm), row p.1 p.2 126 4 ((([] : List Syn) ++ selvesFrom 0 ((([] : List Prm) ++ (List.replicate (m + 1) (1 : Int)).map (setTh (onceP 0))) ++ (ls.take k).map (fun l : CL => setTh (onceP 0) (max 1 (l.1.2.length : Int)))).length).length) ((([] : List Syn) ++ selvesFrom 0 ((([] : List Prm) ++ (List.replicate (m + 1) (1 : Int)).map (setTh (onceP 0))) ++ (ls.take k).map (fun l : CL => setTh (onceP 0) (max 1 (l.1.2.length : Int)))).length).flatMap eSyn), blk pb5 116 (ePrm (onceP 0)), blk bb6 161 [.pointer (some ⟨b4, 0, none⟩)], blk b1 32 [.slice none 0 0, .int .i64 0, .slice none 0 0]]) en_61 rfl (fun w hs => selves_c _ _ _ _ _ ((([] : List Prm) ++ (List.replicate (m + 1) (1 : Int)).map (setTh (onceP 0))) ++ (ls.take k).map (fun l : CL => setTh (onceP 0) (max 1 (l.1.2.length : Int)))) _ ([] : List Syn) _ w _ (by simp only [List.length_append, List.length_map, List.length_take, List.length_cons, List.length_nil, List.length_replicate, selves_len]; omega) (by simp only [List.length_append, List.length_map, List.length_take, List.length_cons, List.length_nil, List.length_replicate, selves_len]; omega) (((((((hs.pull (.there (.there (.there (.there (.there .here)))))).pull (.there (.there (.there (.there (.there .here)))))).pull (.there (.there (.there (.there (.there .here)))))).pull (.there (.there (.there (.there (.there .here)))))).pull (.there (.there (.there (.there (.there .here)))))).pull (.there (.there (.there (.there (.there .here)))))))) ?_
        rintro ⟨a23, c24⟩
        refine Ops.to rfl ?_
        refine Cd.seq ?_
        refine Cd.seq ?_
        refine Cd.region ?_
        refine Ops.q (q_mv rfl) ?_
        refine Ops.q (q_len esz_52 rfl) ?_
        refine Ops.q (q_mv rfl) ?_
        refine Ops.to rfl ?_
        refine Cd.block ?_
        refine Cd.lp (σ := Nat × Option Addr × Nat) (fun s => s.1 ≤ ls.length) (fun s => [(0, .int .i64 (m : Int)), (4, .pointer (some ⟨b1, 0, none⟩)), (6, .pointer (some ⟨b4, 0, none⟩)), (72, .slice la ls.length lc), (73, .int .i64 (ls.length : Int)), (74, .int .i64 (s.1 : Int))]) (fun s => [blk b4 114 [.slice pa (((([] : List Prm) ++ (List.replicate (m + 1) (1 : Int)).map (setTh (onceP 0))) ++ (ls.take k).map (fun l : CL => setTh (onceP 0) (max 1 (l.1.2.length : Int)))).length) pc, .int .i64 1, .slice s.2.1 (((([] : List Syn) ++ selvesFrom 0 ((([] : List Prm) ++ (List.replicate (m + 1) (1 : Int)).map (setTh (onceP 0))) ++ (ls.take k).map (fun l : CL => setTh (onceP 0) (max 1 (l.1.2.length : Int)))).length) ++ clTo m (ls.map clP) s.1).length) s.2.2], row pa pc 116 8 (((([] : List Prm) ++ (List.replicate (m + 1) (1 : Int)).map (setTh (onceP 0))) ++ (ls.take k).map (fun l : CL => setTh (onceP 0) (max 1 (l.1.2.length : Int)))).length) (((([] : List Prm) ++ (List.replicate (m + 1) (1 : Int)).map (setTh (onceP 0))) ++ (ls.take k).map (fun l : CL => setTh (onceP 0) (max 1 (l.1.2.length : Int)))).flatMap ePrm), row s.2.1 s.2.2 126 4 (((([] : List Syn) ++ selvesFrom 0 ((([] : List Prm) ++ (List.replicate (m + 1) (1 : Int)).map (setTh (onceP 0))) ++ (ls.take k).map (fun l : CL => setTh (onceP 0) (max 1 (l.1.2.length : Int)))).length) ++ clTo m (ls.map clP) s.1).length) (((([] : List Syn) ++ selvesFrom 0 ((([] : List Prm) ++ (List.replicate (m + 1) (1 : Int)).map (setTh (onceP 0))) ++ (ls.take k).map (fun l : CL => setTh (onceP 0) (max 1 (l.1.2.length : Int)))).length) ++ clTo m (ls.map clP) s.1).flatMap eSyn), blk b1 32 [.slice none 0 0, .int .i64 0, .slice none 0 0]]) (fun s => ls.length - s.1) (0, a23, c24) (Nat.zero_le _) ⟨rfl, rfl, rfl, rfl, rfl, rfl, trivial⟩ (fun _ hs => by have h1 := ((((((hs.pull (.there (.there (.there (.there (.there .here)))))).pull (.there (.there (.there .here)))).pull (.there (.there (.there .here)))).pull (.there (.there (.there .here)))).pull (.there (.there (.there (.there .here))))).drop.pull (.there (.there (.there (.there .here))))).drop; dsimp only; rw [show ((([] : List Syn) ++ selvesFrom 0 ((([] : List Prm) ++ (List.replicate (m + 1) (1 : Int)).map (setTh (onceP 0))) ++ (ls.take k).map (fun l : CL => setTh (onceP 0) (max 1 (l.1.2.length : Int)))).length) ++ clTo m (ls.map clP) 0) = (([] : List Syn) ++ selvesFrom 0 ((([] : List Prm) ++ (List.replicate (m + 1) (1 : Int)).map (setTh (onceP 0))) ++ (ls.take k).map (fun l : CL => setTh (onceP 0) (max 1 (l.1.2.length : Int)))).length) from List.append_nil _]; exact h1) ?_
        rintro ⟨q, qa, qc⟩ hI
        dsimp only at hI
        change Cd _ _ _ _ _ _ _ [(0, .int .i64 (m : Int)), (4, .pointer (some ⟨b1, 0, none⟩)), (6, .pointer (some ⟨b4, 0, none⟩)), (72, .slice la ls.length lc), (73, .int .i64 (ls.length : Int)), (74, .int .i64 (q : Int))] ([blk b4 114 [.slice pa (((([] : List Prm) ++ (List.replicate (m + 1) (1 : Int)).map (setTh (onceP 0))) ++ (ls.take k).map (fun l : CL => setTh (onceP 0) (max 1 (l.1.2.length : Int)))).length) pc, .int .i64 1, .slice qa (((([] : List Syn) ++ selvesFrom 0 ((([] : List Prm) ++ (List.replicate (m + 1) (1 : Int)).map (setTh (onceP 0))) ++ (ls.take k).map (fun l : CL => setTh (onceP 0) (max 1 (l.1.2.length : Int)))).length) ++ clTo m (ls.map clP) q).length) qc], row pa pc 116 8 (((([] : List Prm) ++ (List.replicate (m + 1) (1 : Int)).map (setTh (onceP 0))) ++ (ls.take k).map (fun l : CL => setTh (onceP 0) (max 1 (l.1.2.length : Int)))).length) (((([] : List Prm) ++ (List.replicate (m + 1) (1 : Int)).map (setTh (onceP 0))) ++ (ls.take k).map (fun l : CL => setTh (onceP 0) (max 1 (l.1.2.length : Int)))).flatMap ePrm), row qa qc 126 4 (((([] : List Syn) ++ selvesFrom 0 ((([] : List Prm) ++ (List.replicate (m + 1) (1 : Int)).map (setTh (onceP 0))) ++ (ls.take k).map (fun l : CL => setTh (onceP 0) (max 1 (l.1.2.length : Int)))).length) ++ clTo m (ls.map clP) q).length) (((([] : List Syn) ++ selvesFrom 0 ((([] : List Prm) ++ (List.replicate (m + 1) (1 : Int)).map (setTh (onceP 0))) ++ (ls.take k).map (fun l : CL => setTh (onceP 0) (max 1 (l.1.2.length : Int)))).length) ++ clTo m (ls.map clP) q).flatMap eSyn), blk b1 32 [.slice none 0 0, .int .i64 0, .slice none 0 0]])
        refine Cd.seq ?_
        refine Cd.region ?_
        by_cases hq0 : (q : Int) < (ls.length : Int)
        · refine Ops.q (q_cmp rfl rfl (c_lt hq0)) ?_
          obtain ⟨⟨⟨⟨xa, xc⟩, xr⟩, xt⟩, hx⟩ : ∃ x, ls[q]? = some x := ⟨_, List.getElem?_eq_getElem (by omega)⟩
          have hxe : RoL w xa eInt xr := hL.2 _ (List.mem_iff_getElem?.2 ⟨q, hx⟩)
          skip
          have hxq : (ls.map clP)[q]? = some (xr, xt) := by rw [List.getElem?_map, hx]; rfl
          obtain ⟨lb, lo, rfl⟩ := RoL.pos hL.1 eCl_len hx
          have hcl := clTo_len (m := m) h16 q (by rw [List.length_map]; omega)
          have hxm := h16 _ (List.mem_iff_getElem?.2 ⟨q, hxq⟩)
          dsimp only at hxm
          refine Ops.to rfl ?_
          refine Cd.seq ?_
          refine Cd.cond_t rfl ?_
          refine Cd.skipTo rfl ?_
          refine Cd.seq ?_
          refine Cd.block ?_
          refine Cd.seq ?_
          refine Cd.region ?_
          refine Ops.q (q_mv rfl) ?_
          refine Ops.q (q_ix (k := q) esz_52 rfl rfl (by omega)) ?_
          refine Ops.q (q_ldRN [.slice xa xr.length xc, .int .i64 xt] isA_55 sz_55 rfl (fun j u hu => hL.1.at eCl_len hx hu)) ?_
          refine Ops.alc [.slice none 0 0, .int .i64 0] zc_55 ?_
          intro b25
          refine Ops.q (q_asg rfl) ?_
          refine Ops.stB [.slice xa xr.length xc, .int .i64 xt] [.slice xa xr.length xc, .int .i64 xt] sz_55 rfl rfl rfl (one rfl) .here rfl rfl ?_
          refine Ops.to rfl ?_
          refine Cd.seq ?_
          refine Cd.seq ?_
          refine Cd.region ?_
          refine Ops.q (q_fa fo_55_0 rfl) ?_
          refine Ops.q (q_ldB isA_26 rfl .here rfl) ?_
          refine Ops.q (q_len esz_26 rfl) ?_
          refine Ops.q (q_mv rfl) ?_
          refine Ops.to rfl ?_
          refine Cd.block ?_
          refine Cd.lp (σ := Nat × Option Addr × Nat) (fun s => s.1 ≤ xr.length) (fun s => [(0, .int .i64 (m : Int)), (4, .pointer (some ⟨b1, 0, none⟩)), (6, .pointer (some ⟨b4, 0, none⟩)), (72, .slice (some ⟨lb, lo, none⟩) ls.length lc), (73, .int .i64 (ls.length : Int)), (74, .int .i64 (q : Int)), (11, .int .i64 (q : Int)), (12, .pointer (some ⟨b25, 0, none⟩)), (80, .slice xa xr.length xc), (81, .int .i64 (xr.length : Int)), (82, .int .i64 (s.1 : Int))]) (fun s => [blk b4 114 [.slice pa (((([] : List Prm) ++ (List.replicate (m + 1) (1 : Int)).map (setTh (onceP 0))) ++ (ls.take k).map (fun l : CL => setTh (onceP 0) (max 1 (l.1.2.length : Int)))).length) pc, .int .i64 1, .slice s.2.1 ((((([] : List Syn) ++ selvesFrom 0 ((([] : List Prm) ++ (List.replicate (m + 1) (1 : Int)).map (setTh (onceP 0))) ++ (ls.take k).map (fun l : CL => setTh (onceP 0) (max 1 (l.1.2.length : Int)))).length) ++ clTo m (ls.map clP) q) ++ (xr.take s.1).map (fun t : Int => (⟨t, ((m + 1 + q : Nat) : Int), 1, 1⟩ : Syn))).length) s.2.2], row pa pc 116 8 (((([] : List Prm) ++ (List.replicate (m + 1) (1 : Int)).map (setTh (onceP 0))) ++ (ls.take k).map (fun l : CL => setTh (onceP 0) (max 1 (l.1.2.length : Int)))).length) (((([] : List Prm) ++ (List.replicate (m + 1) (1 : Int)).map (setTh (onceP 0))) ++ (ls.take k).map (fun l : CL => setTh (onceP 0) (max 1 (l.1.2.length : Int)))).flatMap ePrm), row s.2.1 s.2.2 126 4 ((((([] : List Syn) ++ selvesFrom 0 ((([] : List Prm) ++ (List.replicate (m + 1) (1 : Int)).map (setTh (onceP 0))) ++ (ls.take k).map (fun l : CL => setTh (onceP 0) (max 1 (l.1.2.length : Int)))).length) ++ clTo m (ls.map clP) q) ++ (xr.take s.1).map (fun t : Int => (⟨t, ((m + 1 + q : Nat) : Int), 1, 1⟩ : Syn))).length) ((((([] : List Syn) ++ selvesFrom 0 ((([] : List Prm) ++ (List.replicate (m + 1) (1 : Int)).map (setTh (onceP 0))) ++ (ls.take k).map (fun l : CL => setTh (onceP 0) (max 1 (l.1.2.length : Int)))).length) ++ clTo m (ls.map clP) q) ++ (xr.take s.1).map (fun t : Int => (⟨t, ((m + 1 + q : Nat) : Int), 1, 1⟩ : Syn))).flatMap eSyn), blk b25 55 [.slice xa xr.length xc, .int .i64 xt], blk b1 32 [.slice none 0 0, .int .i64 0, .slice none 0 0]]) (fun s => xr.length - s.1) (0, qa, qc) (Nat.zero_le _) ⟨rfl, rfl, rfl, rfl, rfl, rfl, rfl, rfl, rfl, rfl, rfl, trivial⟩ (fun _ hs => by have h1 := (((((hs.pull (.there (.there (.there (.there .here))))).pull (.there .here)).pull (.there (.there (.there (.there .here))))).pull (.there (.there (.there (.there .here))))).pull (.there (.there (.there (.there .here))))); dsimp only; rw [show (((([] : List Syn) ++ selvesFrom 0 ((([] : List Prm) ++ (List.replicate (m + 1) (1 : Int)).map (setTh (onceP 0))) ++ (ls.take k).map (fun l : CL => setTh (onceP 0) (max 1 (l.1.2.length : Int)))).length) ++ clTo m (ls.map clP) q) ++ (xr.take 0).map (fun t : Int => (⟨t, ((m + 1 + q : Nat) : Int), 1, 1⟩ : Syn))) = ((([] : List Syn) ++ selvesFrom 0 ((([] : List Prm) ++ (List.replicate (m + 1) (1 : Int)).map (setTh (onceP 0))) ++ (ls.take k).map (fun l : CL => setTh (onceP 0) (max 1 (l.1.2.length : Int)))).length) ++ clTo m (ls.map clP) q) from List.append_nil _]; exact h1) ?_
          rintro ⟨j, ra, rc⟩ hI
          dsimp only at hI
          change Cd _ _ _ _ _ _ _ [(0, .int .i64 (m : Int)), (4, .pointer (some ⟨b1, 0, none⟩)), (6, .pointer (some ⟨b4, 0, none⟩)), (72, .slice (some ⟨lb, lo, none⟩) ls.length lc), (73, .int .i64 (ls.length : Int)), (74, .int .i64 (q : Int)), (11, .int .i64 (q : Int)), (12, .pointer (some ⟨b25, 0, none⟩)), (80, .slice xa xr.length xc), (81, .int .i64 (xr.length : Int)), (82, .int .i64 (j : Int))] ([blk b4 114 [.slice pa (((([] : List Prm) ++ (List.replicate (m + 1) (1 : Int)).map (setTh (onceP 0))) ++ (ls.take k).map (fun l : CL => setTh (onceP 0) (max 1 (l.1.2.length : Int)))).length) pc, .int .i64 1, .slice ra ((((([] : List Syn) ++ selvesFrom 0 ((([] : List Prm) ++ (List.replicate (m + 1) (1 : Int)).map (setTh (onceP 0))) ++ (ls.take k).map (fun l : CL => setTh (onceP 0) (max 1 (l.1.2.length : Int)))).length) ++ clTo m (ls.map clP) q) ++ (xr.take j).map (fun t : Int => (⟨t, ((m + 1 + q : Nat) : Int), 1, 1⟩ : Syn))).length) rc], row pa pc 116 8 (((([] : List Prm) ++ (List.replicate (m + 1) (1 : Int)).map (setTh (onceP 0))) ++ (ls.take k).map (fun l : CL => setTh (onceP 0) (max 1 (l.1.2.length : Int)))).length) (((([] : List Prm) ++ (List.replicate (m + 1) (1 : Int)).map (setTh (onceP 0))) ++ (ls.take k).map (fun l : CL => setTh (onceP 0) (max 1 (l.1.2.length : Int)))).flatMap ePrm), row ra rc 126 4 ((((([] : List Syn) ++ selvesFrom 0 ((([] : List Prm) ++ (List.replicate (m + 1) (1 : Int)).map (setTh (onceP 0))) ++ (ls.take k).map (fun l : CL => setTh (onceP 0) (max 1 (l.1.2.length : Int)))).length) ++ clTo m (ls.map clP) q) ++ (xr.take j).map (fun t : Int => (⟨t, ((m + 1 + q : Nat) : Int), 1, 1⟩ : Syn))).length) ((((([] : List Syn) ++ selvesFrom 0 ((([] : List Prm) ++ (List.replicate (m + 1) (1 : Int)).map (setTh (onceP 0))) ++ (ls.take k).map (fun l : CL => setTh (onceP 0) (max 1 (l.1.2.length : Int)))).length) ++ clTo m (ls.map clP) q) ++ (xr.take j).map (fun t : Int => (⟨t, ((m + 1 + q : Nat) : Int), 1, 1⟩ : Syn))).flatMap eSyn), blk b25 55 [.slice xa xr.length xc, .int .i64 xt], blk b1 32 [.slice none 0 0, .int .i64 0, .slice none 0 0]])
          refine Cd.seq ?_
          refine Cd.region ?_
          by_cases hj : (j : Int) < (xr.length : Int)
          · refine Ops.q (q_cmp rfl rfl (c_lt hj)) ?_
            obtain ⟨x26, hx27⟩ : ∃ x, xr[j]? = some x := ⟨_, List.getElem?_eq_getElem (by omega)⟩
            obtain ⟨ab28, ao29, rfl⟩ := RoL.pos hxe eInt_len hx27
            refine Ops.to rfl ?_
            refine Cd.seq ?_
            refine Cd.cond_t rfl ?_
            refine Cd.skipTo rfl ?_
            refine Cd.seq ?_
            refine Cd.block ?_
            refine Cd.seq ?_
            refine Cd.region ?_
            refine Ops.q (q_ix (k := j) esz_26 rfl rfl (by omega)) ?_
            refine Ops.q (q_ldR isA_3 rfl (hxe.at0 eInt_len hx27 rfl)) ?_
            refine Ops.q (q_asg rfl) ?_
            refine Ops.to rfl ?_
            refine Cd.region ?_
            refine Ops.q (q_mv rfl) ?_
            refine Ops.q (q_mv rfl) ?_
            refine Ops.q (q_ar (v := ((m + 1 : Nat) : Int)) rfl rfl (a_inc (by omega))) ?_
            refine Ops.q (q_mv rfl) ?_
            refine Ops.q (q_ar (v := ((m + 1 + q : Nat) : Int)) rfl rfl ((by rw [a_add (by omega)]; rfl))) ?_
            refine Ops.cm (α := Option Addr × Nat) (v := fun _ => .tuple #[]) (A' := fun p => [blk b4 114 [.slice pa (((([] : List Prm) ++ (List.replicate (m + 1) (1 : Int)).map (setTh (onceP 0))) ++ (ls.take k).map (fun l : CL => setTh (onceP 0) (max 1 (l.1.2.length : Int)))).length) pc, .int .i64 1, .slice p.1 (((((([] : List Syn) ++ selvesFrom 0 ((([] : List Prm) ++ (List.replicate (m + 1) (1 : Int)).map (setTh (onceP 0))) ++ (ls.take k).map (fun l : CL => setTh (onceP 0) (max 1 (l.1.2.length : Int)))).length) ++ clTo m (ls.map clP) q) ++ (xr.take j).map (fun t : Int => (⟨t, ((m + 1 + q : Nat) : Int), 1, 1⟩ : Syn))) ++ [(⟨x26, ((m + 1 + q : Nat) : Int), 1, 1⟩ : Syn)]).length) p.2], row pa pc 116 8 (((([] : List Prm) ++ (List.replicate (m + 1) (1 : Int)).map (setTh (onceP 0))) ++ (ls.take k).map (fun l : CL => setTh (onceP 0) (max 1 (l.1.2.length : Int)))).length) (((([] : List Prm) ++ (List.replicate (m + 1) (1 : Int)).map (setTh (onceP 0))) ++ (ls.take k).map (fun l : CL => setTh (onceP 0) (max 1 (l.1.2.length : Int)))).flatMap ePrm), row p.1 p.2 126 4 (((((([] : List Syn) ++ selvesFrom 0 ((([] : List Prm) ++ (List.replicate (m + 1) (1 : Int)).map (setTh (onceP 0))) ++ (ls.take k).map (fun l : CL => setTh (onceP 0) (max 1 (l.1.2.length : Int)))).length) ++ clTo m (ls.map clP) q) ++ (xr.take j).map (fun t : Int => (⟨t, ((m + 1 + q : Nat) : Int), 1, 1⟩ : Syn))) ++ [(⟨x26, ((m + 1 + q : Nat) : Int), 1, 1⟩ : Syn)]).length) (((((([] : List Syn) ++ selvesFrom 0 ((([] : List Prm) ++ (List.replicate (m + 1) (1 : Int)).map (setTh (onceP 0))) ++ (ls.take k).map (fun l : CL => setTh (onceP 0) (max 1 (l.1.2.length : Int)))).length) ++ clTo m (ls.map clP) q) ++ (xr.take j).map (fun t : Int => (⟨t, ((m + 1 + q : Nat) : Int), 1, 1⟩ : Syn))) ++ [(⟨x26, ((m + 1 + q : Nat) : Int), 1, 1⟩ : Syn)]).flatMap eSyn), blk b25 55 [.slice (some ⟨ab28, ao29, none⟩) xr.length xc, .int .i64 xt], blk b1 32 [.slice none 0 0, .int .i64 0, .slice none 0 0]]) en_50 rfl (fun w hs => join_c _ _ _ _ _ ((([] : List Prm) ++ (List.replicate (m + 1) (1 : Int)).map (setTh (onceP 0))) ++ (ls.take k).map (fun l : CL => setTh (onceP 0) (max 1 (l.1.2.length : Int)))) _ (((([] : List Syn) ++ selvesFrom 0 ((([] : List Prm) ++ (List.replicate (m + 1) (1 : Int)).map (setTh (onceP 0))) ++ (ls.take k).map (fun l : CL => setTh (onceP 0) (max 1 (l.1.2.length : Int)))).length) ++ clTo m (ls.map clP) q) ++ (xr.take j).map (fun t : Int => (⟨t, ((m + 1 + q : Nat) : Int), 1, 1⟩ : Syn))) x26 ((m + 1 + q : Nat) : Int) 1 1 _ w _ (by simp only [List.length_append, List.length_map, List.length_take, List.length_cons, List.length_nil, List.length_replicate, selves_len]; omega) ((((((hs.pull (.there (.there (.there (.there .here))))).pull (.there (.there (.there (.there .here))))).pull (.there (.there (.there (.there .here))))).pull (.there (.there (.there (.there .here))))).pull (.there (.there (.there (.there .here))))))) ?_
            rintro ⟨a30, c31⟩
            refine Ops.to rfl ?_
            refine Cd.region ?_
            refine Ops.q (q_ar rfl rfl (a_inc (by omega))) ?_
            refine Ops.q (q_mv rfl) ?_
            refine Ops.rnd ((j + 1, a30, c31)) rfl (by dsimp only; exact (by omega)) (by dsimp only; omega) ⟨rfl, rfl, rfl, rfl, rfl, rfl, rfl, rfl, rfl, rfl, rfl, trivial⟩ (fun _ hs => by have h1 := (((((hs.pull (.there (.there (.there (.there .here))))).pull (.there (.there (.there (.there .here))))).pull (.there (.there (.there (.there .here))))).pull (.there (.there (.there (.there .here))))).pull (.there (.there (.there (.there .here))))); dsimp only; rw [mapT _ hx27, ← List.append_assoc]; exact h1) 
          · refine Ops.q (q_cmp rfl rfl (c_nlt (by omega))) ?_
            refine Ops.to rfl ?_
            refine Cd.seq ?_
            refine Cd.cond_f rfl ?_
            refine Cd.exitTo rfl ?_
            refine Cd.seq ?_
            refine Cd.seq ?_
            refine Cd.region ?_
            refine Ops.q (q_fa fo_55_0 rfl) ?_
            refine Ops.q (q_ldB isA_26 rfl (.there (.there (.there .here))) rfl) ?_
            refine Ops.q (q_len esz_26 rfl) ?_
            by_cases hemp : (xr.length : Int) = 0
            · refine Ops.q (q_cmp rfl rfl (c_eq hemp)) ?_
              refine Ops.to rfl ?_
              refine Cd.cond_t rfl ?_
              refine Cd.region ?_
              refine Ops.q (q_mv rfl) ?_
              refine Ops.q (q_ar (v := ((m + 1 : Nat) : Int)) rfl rfl (a_inc (by omega))) ?_
              refine Ops.q (q_mv rfl) ?_
              refine Ops.q (q_ar (v := ((m + 1 + q : Nat) : Int)) rfl rfl ((by rw [a_add (by omega)]; rfl))) ?_
              refine Ops.cm (α := Option Addr × Nat) (v := fun _ => .tuple #[]) (A' := fun p => [blk b4 114 [.slice pa (((([] : List Prm) ++ (List.replicate (m + 1) (1 : Int)).map (setTh (onceP 0))) ++ (ls.take k).map (fun l : CL => setTh (onceP 0) (max 1 (l.1.2.length : Int)))).length) pc, .int .i64 1, .slice p.1 (((((([] : List Syn) ++ selvesFrom 0 ((([] : List Prm) ++ (List.replicate (m + 1) (1 : Int)).map (setTh (onceP 0))) ++ (ls.take k).map (fun l : CL => setTh (onceP 0) (max 1 (l.1.2.length : Int)))).length) ++ clTo m (ls.map clP) q) ++ (xr.take j).map (fun t : Int => (⟨t, ((m + 1 + q : Nat) : Int), 1, 1⟩ : Syn))) ++ [(⟨-1 - 0, ((m + 1 + q : Nat) : Int), 1, 1⟩ : Syn)]).length) p.2], row pa pc 116 8 (((([] : List Prm) ++ (List.replicate (m + 1) (1 : Int)).map (setTh (onceP 0))) ++ (ls.take k).map (fun l : CL => setTh (onceP 0) (max 1 (l.1.2.length : Int)))).length) (((([] : List Prm) ++ (List.replicate (m + 1) (1 : Int)).map (setTh (onceP 0))) ++ (ls.take k).map (fun l : CL => setTh (onceP 0) (max 1 (l.1.2.length : Int)))).flatMap ePrm), row p.1 p.2 126 4 (((((([] : List Syn) ++ selvesFrom 0 ((([] : List Prm) ++ (List.replicate (m + 1) (1 : Int)).map (setTh (onceP 0))) ++ (ls.take k).map (fun l : CL => setTh (onceP 0) (max 1 (l.1.2.length : Int)))).length) ++ clTo m (ls.map clP) q) ++ (xr.take j).map (fun t : Int => (⟨t, ((m + 1 + q : Nat) : Int), 1, 1⟩ : Syn))) ++ [(⟨-1 - 0, ((m + 1 + q : Nat) : Int), 1, 1⟩ : Syn)]).length) (((((([] : List Syn) ++ selvesFrom 0 ((([] : List Prm) ++ (List.replicate (m + 1) (1 : Int)).map (setTh (onceP 0))) ++ (ls.take k).map (fun l : CL => setTh (onceP 0) (max 1 (l.1.2.length : Int)))).length) ++ clTo m (ls.map clP) q) ++ (xr.take j).map (fun t : Int => (⟨t, ((m + 1 + q : Nat) : Int), 1, 1⟩ : Syn))) ++ [(⟨-1 - 0, ((m + 1 + q : Nat) : Int), 1, 1⟩ : Syn)]).flatMap eSyn), blk b25 55 [.slice xa xr.length xc, .int .i64 xt], blk b1 32 [.slice none 0 0, .int .i64 0, .slice none 0 0]]) en_51 rfl (fun w hs => feed_c _ _ _ _ _ ((([] : List Prm) ++ (List.replicate (m + 1) (1 : Int)).map (setTh (onceP 0))) ++ (ls.take k).map (fun l : CL => setTh (onceP 0) (max 1 (l.1.2.length : Int)))) _ (((([] : List Syn) ++ selvesFrom 0 ((([] : List Prm) ++ (List.replicate (m + 1) (1 : Int)).map (setTh (onceP 0))) ++ (ls.take k).map (fun l : CL => setTh (onceP 0) (max 1 (l.1.2.length : Int)))).length) ++ clTo m (ls.map clP) q) ++ (xr.take j).map (fun t : Int => (⟨t, ((m + 1 + q : Nat) : Int), 1, 1⟩ : Syn))) 0 ((m + 1 + q : Nat) : Int) 1 1 _ w _ (by simp only [List.length_append, List.length_map, List.length_take, List.length_cons, List.length_nil, List.length_replicate, selves_len]; omega) (by omega) ((((((hs.pull (.there (.there (.there (.there .here))))).pull (.there (.there (.there (.there .here))))).pull (.there (.there (.there (.there .here))))).pull (.there (.there (.there (.there .here))))).pull (.there (.there (.there (.there .here))))))) ?_
              rintro ⟨a32, c33⟩
              refine Ops.to rfl ?_
              refine Cd.seq ?_
              refine Cd.region ?_
              refine Ops.q (q_fa fo_55_1 rfl) ?_
              refine Ops.q (q_ldB isA_3 rfl (.there (.there (.there .here))) rfl) ?_
              refine Ops.q (q_asg rfl) ?_
              refine Ops.to rfl ?_
              refine Cd.seq ?_
              refine Cd.seq ?_
              refine Cd.region ?_
              refine Ops.q (q_mv rfl) ?_
              by_cases h34 : xt < 0
              · refine Ops.q (q_cmp rfl rfl (c_lt h34)) ?_
                have hxt := h34
                refine Ops.to rfl ?_
                refine Cd.cond_t rfl ?_
                refine Cd.region ?_
                refine Ops.q (q_mv rfl) ?_
                refine Ops.q (q_asg rfl) ?_
                refine Ops.to rfl ?_
                refine Cd.region ?_
                refine Ops.q (q_mv rfl) ?_
                refine Ops.q (q_ar (v := ((m + 1 : Nat) : Int)) rfl rfl (a_inc (by omega))) ?_
                refine Ops.q (q_mv rfl) ?_
                refine Ops.q (q_ar (v := ((m + 1 + q : Nat) : Int)) rfl rfl ((by rw [a_add (by omega)]; rfl))) ?_
                refine Ops.q (q_mv rfl) ?_
                refine Ops.cm (α := Option Addr × Nat) (v := fun _ => .tuple #[]) (A' := fun p => [blk b4 114 [.slice pa (((([] : List Prm) ++ (List.replicate (m + 1) (1 : Int)).map (setTh (onceP 0))) ++ (ls.take k).map (fun l : CL => setTh (onceP 0) (max 1 (l.1.2.length : Int)))).length) pc, .int .i64 1, .slice p.1 ((((((([] : List Syn) ++ selvesFrom 0 ((([] : List Prm) ++ (List.replicate (m + 1) (1 : Int)).map (setTh (onceP 0))) ++ (ls.take k).map (fun l : CL => setTh (onceP 0) (max 1 (l.1.2.length : Int)))).length) ++ clTo m (ls.map clP) q) ++ (xr.take j).map (fun t : Int => (⟨t, ((m + 1 + q : Nat) : Int), 1, 1⟩ : Syn))) ++ [(⟨-1 - 0, ((m + 1 + q : Nat) : Int), 1, 1⟩ : Syn)]) ++ [(⟨((m + 1 + q : Nat) : Int), (m : Int), 1, 1⟩ : Syn)]).length) p.2], row pa pc 116 8 (((([] : List Prm) ++ (List.replicate (m + 1) (1 : Int)).map (setTh (onceP 0))) ++ (ls.take k).map (fun l : CL => setTh (onceP 0) (max 1 (l.1.2.length : Int)))).length) (((([] : List Prm) ++ (List.replicate (m + 1) (1 : Int)).map (setTh (onceP 0))) ++ (ls.take k).map (fun l : CL => setTh (onceP 0) (max 1 (l.1.2.length : Int)))).flatMap ePrm), row p.1 p.2 126 4 ((((((([] : List Syn) ++ selvesFrom 0 ((([] : List Prm) ++ (List.replicate (m + 1) (1 : Int)).map (setTh (onceP 0))) ++ (ls.take k).map (fun l : CL => setTh (onceP 0) (max 1 (l.1.2.length : Int)))).length) ++ clTo m (ls.map clP) q) ++ (xr.take j).map (fun t : Int => (⟨t, ((m + 1 + q : Nat) : Int), 1, 1⟩ : Syn))) ++ [(⟨-1 - 0, ((m + 1 + q : Nat) : Int), 1, 1⟩ : Syn)]) ++ [(⟨((m + 1 + q : Nat) : Int), (m : Int), 1, 1⟩ : Syn)]).length) ((((((([] : List Syn) ++ selvesFrom 0 ((([] : List Prm) ++ (List.replicate (m + 1) (1 : Int)).map (setTh (onceP 0))) ++ (ls.take k).map (fun l : CL => setTh (onceP 0) (max 1 (l.1.2.length : Int)))).length) ++ clTo m (ls.map clP) q) ++ (xr.take j).map (fun t : Int => (⟨t, ((m + 1 + q : Nat) : Int), 1, 1⟩ : Syn))) ++ [(⟨-1 - 0, ((m + 1 + q : Nat) : Int), 1, 1⟩ : Syn)]) ++ [(⟨((m + 1 + q : Nat) : Int), (m : Int), 1, 1⟩ : Syn)]).flatMap eSyn), blk b25 55 [.slice xa xr.length xc, .int .i64 xt], blk b1 32 [.slice none 0 0, .int .i64 0, .slice none 0 0]]) en_50 rfl (fun w hs => join_c _ _ _ _ _ ((([] : List Prm) ++ (List.replicate (m + 1) (1 : Int)).map (setTh (onceP 0))) ++ (ls.take k).map (fun l : CL => setTh (onceP 0) (max 1 (l.1.2.length : Int)))) _ ((((([] : List Syn) ++ selvesFrom 0 ((([] : List Prm) ++ (List.replicate (m + 1) (1 : Int)).map (setTh (onceP 0))) ++ (ls.take k).map (fun l : CL => setTh (onceP 0) (max 1 (l.1.2.length : Int)))).length) ++ clTo m (ls.map clP) q) ++ (xr.take j).map (fun t : Int => (⟨t, ((m + 1 + q : Nat) : Int), 1, 1⟩ : Syn))) ++ [(⟨-1 - 0, ((m + 1 + q : Nat) : Int), 1, 1⟩ : Syn)]) ((m + 1 + q : Nat) : Int) (m : Int) 1 1 _ w _ (by simp only [List.length_append, List.length_map, List.length_take, List.length_cons, List.length_nil, List.length_replicate, selves_len]; omega) ((((((hs.pull (.there (.there (.there (.there .here))))).pull (.there (.there (.there (.there .here))))).pull (.there (.there (.there (.there .here))))).pull (.there (.there (.there (.there .here))))).pull (.there (.there (.there (.there .here))))))) ?_
                rintro ⟨a35, c36⟩
                refine Ops.to rfl ?_
                refine Cd.region ?_
                refine Ops.q (q_ar rfl rfl (a_inc (by omega))) ?_
                refine Ops.q (q_mv rfl) ?_
                refine Ops.rnd ((q + 1, a35, c36)) rfl (by dsimp only; exact (by omega)) (by dsimp only; omega) ⟨rfl, rfl, rfl, rfl, rfl, rfl, trivial⟩ (fun _ hs => by have h1 := (((((hs.pull (.there (.there (.there (.there .here))))).pull (.there (.there (.there .here)))).pull (.there (.there (.there .here)))).pull (.there (.there (.there .here)))).pull (.there (.there (.there (.there .here))))).drop; rw [List.take_of_length_le (show xr.length ≤ j by omega)] at h1; dsimp only; rw [cl_stepE hxq (by omega) (by rw [if_pos (by omega)])]; exact h1) 
              · refine Ops.q (q_cmp rfl rfl (c_nlt (by omega))) ?_
                have hxt := h34
                refine Ops.to rfl ?_
                refine Cd.cond_f rfl ?_
                refine Cd.skipTo rfl ?_
                refine Cd.region ?_
                refine Ops.q (q_mv rfl) ?_
                refine Ops.q (q_ar (v := ((m + 1 : Nat) : Int)) rfl rfl (a_inc (by omega))) ?_
                refine Ops.q (q_mv rfl) ?_
                refine Ops.q (q_ar (v := ((m + 1 + q : Nat) : Int)) rfl rfl ((by rw [a_add (by omega)]; rfl))) ?_
                refine Ops.q (q_mv rfl) ?_
                refine Ops.cm (α := Option Addr × Nat) (v := fun _ => .tuple #[]) (A' := fun p => [blk b4 114 [.slice pa (((([] : List Prm) ++ (List.replicate (m + 1) (1 : Int)).map (setTh (onceP 0))) ++ (ls.take k).map (fun l : CL => setTh (onceP 0) (max 1 (l.1.2.length : Int)))).length) pc, .int .i64 1, .slice p.1 ((((((([] : List Syn) ++ selvesFrom 0 ((([] : List Prm) ++ (List.replicate (m + 1) (1 : Int)).map (setTh (onceP 0))) ++ (ls.take k).map (fun l : CL => setTh (onceP 0) (max 1 (l.1.2.length : Int)))).length) ++ clTo m (ls.map clP) q) ++ (xr.take j).map (fun t : Int => (⟨t, ((m + 1 + q : Nat) : Int), 1, 1⟩ : Syn))) ++ [(⟨-1 - 0, ((m + 1 + q : Nat) : Int), 1, 1⟩ : Syn)]) ++ [(⟨((m + 1 + q : Nat) : Int), xt, 1, 1⟩ : Syn)]).length) p.2], row pa pc 116 8 (((([] : List Prm) ++ (List.replicate (m + 1) (1 : Int)).map (setTh (onceP 0))) ++ (ls.take k).map (fun l : CL => setTh (onceP 0) (max 1 (l.1.2.length : Int)))).length) (((([] : List Prm) ++ (List.replicate (m + 1) (1 : Int)).map (setTh (onceP 0))) ++ (ls.take k).map (fun l : CL => setTh (onceP 0) (max 1 (l.1.2.length : Int)))).flatMap ePrm), row p.1 p.2 126 4 ((((((([] : List Syn) ++ selvesFrom 0 ((([] : List Prm) ++ (List.replicate (m + 1) (1 : Int)).map (setTh (onceP 0))) ++ (ls.take k).map (fun l : CL => setTh (onceP 0) (max 1 (l.1.2.length : Int)))).length) ++ clTo m (ls.map clP) q) ++ (xr.take j).map (fun t : Int => (⟨t, ((m + 1 + q : Nat) : Int), 1, 1⟩ : Syn))) ++ [(⟨-1 - 0, ((m + 1 + q : Nat) : Int), 1, 1⟩ : Syn)]) ++ [(⟨((m + 1 + q : Nat) : Int), xt, 1, 1⟩ : Syn)]).length) ((((((([] : List Syn) ++ selvesFrom 0 ((([] : List Prm) ++ (List.replicate (m + 1) (1 : Int)).map (setTh (onceP 0))) ++ (ls.take k).map (fun l : CL => setTh (onceP 0) (max 1 (l.1.2.length : Int)))).length) ++ clTo m (ls.map clP) q) ++ (xr.take j).map (fun t : Int => (⟨t, ((m + 1 + q : Nat) : Int), 1, 1⟩ : Syn))) ++ [(⟨-1 - 0, ((m + 1 + q : Nat) : Int), 1, 1⟩ : Syn)]) ++ [(⟨((m + 1 + q : Nat) : Int), xt, 1, 1⟩ : Syn)]).flatMap eSyn), blk b25 55 [.slice xa xr.length xc, .int .i64 xt], blk b1 32 [.slice none 0 0, .int .i64 0, .slice none 0 0]]) en_50 rfl (fun w hs => join_c _ _ _ _ _ ((([] : List Prm) ++ (List.replicate (m + 1) (1 : Int)).map (setTh (onceP 0))) ++ (ls.take k).map (fun l : CL => setTh (onceP 0) (max 1 (l.1.2.length : Int)))) _ ((((([] : List Syn) ++ selvesFrom 0 ((([] : List Prm) ++ (List.replicate (m + 1) (1 : Int)).map (setTh (onceP 0))) ++ (ls.take k).map (fun l : CL => setTh (onceP 0) (max 1 (l.1.2.length : Int)))).length) ++ clTo m (ls.map clP) q) ++ (xr.take j).map (fun t : Int => (⟨t, ((m + 1 + q : Nat) : Int), 1, 1⟩ : Syn))) ++ [(⟨-1 - 0, ((m + 1 + q : Nat) : Int), 1, 1⟩ : Syn)]) ((m + 1 + q : Nat) : Int) xt 1 1 _ w _ (by simp only [List.length_append, List.length_map, List.length_take, List.length_cons, List.length_nil, List.length_replicate, selves_len]; omega) ((((((hs.pull (.there (.there (.there (.there .here))))).pull (.there (.there (.there (.there .here))))).pull (.there (.there (.there (.there .here))))).pull (.there (.there (.there (.there .here))))).pull (.there (.there (.there (.there .here))))))) ?_
                rintro ⟨a37, c38⟩
                refine Ops.to rfl ?_
                refine Cd.region ?_
                refine Ops.q (q_ar rfl rfl (a_inc (by omega))) ?_
                refine Ops.q (q_mv rfl) ?_
                refine Ops.rnd ((q + 1, a37, c38)) rfl (by dsimp only; exact (by omega)) (by dsimp only; omega) ⟨rfl, rfl, rfl, rfl, rfl, rfl, trivial⟩ (fun _ hs => by have h1 := (((((hs.pull (.there (.there (.there (.there .here))))).pull (.there (.there (.there .here)))).pull (.there (.there (.there .here)))).pull (.there (.there (.there .here)))).pull (.there (.there (.there (.there .here))))).drop; rw [List.take_of_length_le (show xr.length ≤ j by omega)] at h1; dsimp only; rw [cl_stepE hxq (by omega) (by rw [if_neg (by omega)])]; exact h1) 
            · refine Ops.q (q_cmp rfl rfl (c_neq hemp)) ?_
              refine Ops.to rfl ?_
              refine Cd.cond_f rfl ?_
              refine Cd.skipTo rfl ?_
              refine Cd.seq ?_
              refine Cd.region ?_
              refine Ops.q (q_fa fo_55_1 rfl) ?_
              refine Ops.q (q_ldB isA_3 rfl (.there (.there (.there .here))) rfl) ?_
              refine Ops.q (q_asg rfl) ?_
              refine Ops.to rfl ?_
              refine Cd.seq ?_
              refine Cd.seq ?_
              refine Cd.region ?_
              refine Ops.q (q_mv rfl) ?_
              by_cases h39 : xt < 0
              · refine Ops.q (q_cmp rfl rfl (c_lt h39)) ?_
                have hxt := h39
                refine Ops.to rfl ?_
                refine Cd.cond_t rfl ?_
                refine Cd.region ?_
                refine Ops.q (q_mv rfl) ?_
                refine Ops.q (q_asg rfl) ?_
                refine Ops.to rfl ?_
                refine Cd.region ?_
                refine Ops.q (q_mv rfl) ?_
                refine Ops.q (q_ar (v := ((m + 1 : Nat) : Int)) rfl rfl (a_inc (by omega))) ?_
                refine Ops.q (q_mv rfl) ?_
                refine Ops.q (q_ar (v := ((m + 1 + q : Nat) : Int)) rfl rfl ((by rw [a_add (by omega)]; rfl))) ?_
                refine Ops.q (q_mv rfl) ?_
                refine Ops.cm (α := Option Addr × Nat) (v := fun _ => .tuple #[]) (A' := fun p => [blk b4 114 [.slice pa (((([] : List Prm) ++ (List.replicate (m + 1) (1 : Int)).map (setTh (onceP 0))) ++ (ls.take k).map (fun l : CL => setTh (onceP 0) (max 1 (l.1.2.length : Int)))).length) pc, .int .i64 1, .slice p.1 (((((([] : List Syn) ++ selvesFrom 0 ((([] : List Prm) ++ (List.replicate (m + 1) (1 : Int)).map (setTh (onceP 0))) ++ (ls.take k).map (fun l : CL => setTh (onceP 0) (max 1 (l.1.2.length : Int)))).length) ++ clTo m (ls.map clP) q) ++ (xr.take j).map (fun t : Int => (⟨t, ((m + 1 + q : Nat) : Int), 1, 1⟩ : Syn))) ++ [(⟨((m + 1 + q : Nat) : Int), (m : Int), 1, 1⟩ : Syn)]).length) p.2], row pa pc 116 8 (((([] : List Prm) ++ (List.replicate (m + 1) (1 : Int)).map (setTh (onceP 0))) ++ (ls.take k).map (fun l : CL => setTh (onceP 0) (max 1 (l.1.2.length : Int)))).length) (((([] : List Prm) ++ (List.replicate (m + 1) (1 : Int)).map (setTh (onceP 0))) ++ (ls.take k).map (fun l : CL => setTh (onceP 0) (max 1 (l.1.2.length : Int)))).flatMap ePrm), row p.1 p.2 126 4 (((((([] : List Syn) ++ selvesFrom 0 ((([] : List Prm) ++ (List.replicate (m + 1) (1 : Int)).map (setTh (onceP 0))) ++ (ls.take k).map (fun l : CL => setTh (onceP 0) (max 1 (l.1.2.length : Int)))).length) ++ clTo m (ls.map clP) q) ++ (xr.take j).map (fun t : Int => (⟨t, ((m + 1 + q : Nat) : Int), 1, 1⟩ : Syn))) ++ [(⟨((m + 1 + q : Nat) : Int), (m : Int), 1, 1⟩ : Syn)]).length) (((((([] : List Syn) ++ selvesFrom 0 ((([] : List Prm) ++ (List.replicate (m + 1) (1 : Int)).map (setTh (onceP 0))) ++ (ls.take k).map (fun l : CL => setTh (onceP 0) (max 1 (l.1.2.length : Int)))).length) ++ clTo m (ls.map clP) q) ++ (xr.take j).map (fun t : Int => (⟨t, ((m + 1 + q : Nat) : Int), 1, 1⟩ : Syn))) ++ [(⟨((m + 1 + q : Nat) : Int), (m : Int), 1, 1⟩ : Syn)]).flatMap eSyn), blk b25 55 [.slice xa xr.length xc, .int .i64 xt], blk b1 32 [.slice none 0 0, .int .i64 0, .slice none 0 0]]) en_50 rfl (fun w hs => join_c _ _ _ _ _ ((([] : List Prm) ++ (List.replicate (m + 1) (1 : Int)).map (setTh (onceP 0))) ++ (ls.take k).map (fun l : CL => setTh (onceP 0) (max 1 (l.1.2.length : Int)))) _ (((([] : List Syn) ++ selvesFrom 0 ((([] : List Prm) ++ (List.replicate (m + 1) (1 : Int)).map (setTh (onceP 0))) ++ (ls.take k).map (fun l : CL => setTh (onceP 0) (max 1 (l.1.2.length : Int)))).length) ++ clTo m (ls.map clP) q) ++ (xr.take j).map (fun t : Int => (⟨t, ((m + 1 + q : Nat) : Int), 1, 1⟩ : Syn))) ((m + 1 + q : Nat) : Int) (m : Int) 1 1 _ w _ (by simp only [List.length_append, List.length_map, List.length_take, List.length_cons, List.length_nil, List.length_replicate, selves_len]; omega) ((((((hs.pull (.there (.there (.there (.there .here))))).pull (.there (.there (.there (.there .here))))).pull (.there (.there (.there (.there .here))))).pull (.there (.there (.there (.there .here))))).pull (.there (.there (.there (.there .here))))))) ?_
                rintro ⟨a40, c41⟩
                refine Ops.to rfl ?_
                refine Cd.region ?_
                refine Ops.q (q_ar rfl rfl (a_inc (by omega))) ?_
                refine Ops.q (q_mv rfl) ?_
                refine Ops.rnd ((q + 1, a40, c41)) rfl (by dsimp only; exact (by omega)) (by dsimp only; omega) ⟨rfl, rfl, rfl, rfl, rfl, rfl, trivial⟩ (fun _ hs => by have h1 := (((((hs.pull (.there (.there (.there (.there .here))))).pull (.there (.there (.there .here)))).pull (.there (.there (.there .here)))).pull (.there (.there (.there .here)))).pull (.there (.there (.there (.there .here))))).drop; rw [List.take_of_length_le (show xr.length ≤ j by omega)] at h1; dsimp only; rw [cl_stepN hxq (by omega) (by rw [if_pos (by omega)])]; exact h1) 
              · refine Ops.q (q_cmp rfl rfl (c_nlt (by omega))) ?_
                have hxt := h39
                refine Ops.to rfl ?_
                refine Cd.cond_f rfl ?_
                refine Cd.skipTo rfl ?_
                refine Cd.region ?_
                refine Ops.q (q_mv rfl) ?_
                refine Ops.q (q_ar (v := ((m + 1 : Nat) : Int)) rfl rfl (a_inc (by omega))) ?_
                refine Ops.q (q_mv rfl) ?_
                refine Ops.q (q_ar (v := ((m + 1 + q : Nat) : Int)) rfl rfl ((by rw [a_add (by omega)]; rfl))) ?_
                refine Ops.q (q_mv rfl) ?_
                refine Ops.cm (α := Option Addr × Nat) (v := fun _ => .tuple #[]) (A' := fun p => [blk b4 114 [.slice pa (((([] : List Prm) ++ (List.replicate (m + 1) (1 : Int)).map (setTh (onceP 0))) ++ (ls.take k).map (fun l : CL => setTh (onceP 0) (max 1 (l.1.2.length : Int)))).length) pc, .int .i64 1, .slice p.1 (((((([] : List Syn) ++ selvesFrom 0 ((([] : List Prm) ++ (List.replicate (m + 1) (1 : Int)).map (setTh (onceP 0))) ++ (ls.take k).map (fun l : CL => setTh (onceP 0) (max 1 (l.1.2.length : Int)))).length) ++ clTo m (ls.map clP) q) ++ (xr.take j).map (fun t : Int => (⟨t, ((m + 1 + q : Nat) : Int), 1, 1⟩ : Syn))) ++ [(⟨((m + 1 + q : Nat) : Int), xt, 1, 1⟩ : Syn)]).length) p.2], row pa pc 116 8 (((([] : List Prm) ++ (List.replicate (m + 1) (1 : Int)).map (setTh (onceP 0))) ++ (ls.take k).map (fun l : CL => setTh (onceP 0) (max 1 (l.1.2.length : Int)))).length) (((([] : List Prm) ++ (List.replicate (m + 1) (1 : Int)).map (setTh (onceP 0))) ++ (ls.take k).map (fun l : CL => setTh (onceP 0) (max 1 (l.1.2.length : Int)))).flatMap ePrm), row p.1 p.2 126 4 (((((([] : List Syn) ++ selvesFrom 0 ((([] : List Prm) ++ (List.replicate (m + 1) (1 : Int)).map (setTh (onceP 0))) ++ (ls.take k).map (fun l : CL => setTh (onceP 0) (max 1 (l.1.2.length : Int)))).length) ++ clTo m (ls.map clP) q) ++ (xr.take j).map (fun t : Int => (⟨t, ((m + 1 + q : Nat) : Int), 1, 1⟩ : Syn))) ++ [(⟨((m + 1 + q : Nat) : Int), xt, 1, 1⟩ : Syn)]).length) (((((([] : List Syn) ++ selvesFrom 0 ((([] : List Prm) ++ (List.replicate (m + 1) (1 : Int)).map (setTh (onceP 0))) ++ (ls.take k).map (fun l : CL => setTh (onceP 0) (max 1 (l.1.2.length : Int)))).length) ++ clTo m (ls.map clP) q) ++ (xr.take j).map (fun t : Int => (⟨t, ((m + 1 + q : Nat) : Int), 1, 1⟩ : Syn))) ++ [(⟨((m + 1 + q : Nat) : Int), xt, 1, 1⟩ : Syn)]).flatMap eSyn), blk b25 55 [.slice xa xr.length xc, .int .i64 xt], blk b1 32 [.slice none 0 0, .int .i64 0, .slice none 0 0]]) en_50 rfl (fun w hs => join_c _ _ _ _ _ ((([] : List Prm) ++ (List.replicate (m + 1) (1 : Int)).map (setTh (onceP 0))) ++ (ls.take k).map (fun l : CL => setTh (onceP 0) (max 1 (l.1.2.length : Int)))) _ (((([] : List Syn) ++ selvesFrom 0 ((([] : List Prm) ++ (List.replicate (m + 1) (1 : Int)).map (setTh (onceP 0))) ++ (ls.take k).map (fun l : CL => setTh (onceP 0) (max 1 (l.1.2.length : Int)))).length) ++ clTo m (ls.map clP) q) ++ (xr.take j).map (fun t : Int => (⟨t, ((m + 1 + q : Nat) : Int), 1, 1⟩ : Syn))) ((m + 1 + q : Nat) : Int) xt 1 1 _ w _ (by simp only [List.length_append, List.length_map, List.length_take, List.length_cons, List.length_nil, List.length_replicate, selves_len]; omega) ((((((hs.pull (.there (.there (.there (.there .here))))).pull (.there (.there (.there (.there .here))))).pull (.there (.there (.there (.there .here))))).pull (.there (.there (.there (.there .here))))).pull (.there (.there (.there (.there .here))))))) ?_
                rintro ⟨a42, c43⟩
                refine Ops.to rfl ?_
                refine Cd.region ?_
                refine Ops.q (q_ar rfl rfl (a_inc (by omega))) ?_
                refine Ops.q (q_mv rfl) ?_
                refine Ops.rnd ((q + 1, a42, c43)) rfl (by dsimp only; exact (by omega)) (by dsimp only; omega) ⟨rfl, rfl, rfl, rfl, rfl, rfl, trivial⟩ (fun _ hs => by have h1 := (((((hs.pull (.there (.there (.there (.there .here))))).pull (.there (.there (.there .here)))).pull (.there (.there (.there .here)))).pull (.there (.there (.there .here)))).pull (.there (.there (.there (.there .here))))).drop; rw [List.take_of_length_le (show xr.length ≤ j by omega)] at h1; dsimp only; rw [cl_stepN hxq (by omega) (by rw [if_neg (by omega)])]; exact h1) 
        · refine Ops.q (q_cmp rfl rfl (c_nlt (by omega))) ?_
          refine Ops.to rfl ?_
          refine Cd.seq ?_
          refine Cd.cond_f rfl ?_
          refine Cd.exitTo rfl ?_
          refine Cd.seq ?_
          refine Cd.region ?_
          refine Ops.q (q_fa fo_114_0 rfl) ?_
          refine Ops.q (q_ldBN [.slice pa (((([] : List Prm) ++ (List.replicate (m + 1) (1 : Int)).map (setTh (onceP 0))) ++ (ls.take k).map (fun l : CL => setTh (onceP 0) (max 1 (l.1.2.length : Int)))).length) pc, .int .i64 1, .slice qa (((([] : List Syn) ++ selvesFrom 0 ((([] : List Prm) ++ (List.replicate (m + 1) (1 : Int)).map (setTh (onceP 0))) ++ (ls.take k).map (fun l : CL => setTh (onceP 0) (max 1 (l.1.2.length : Int)))).length) ++ clTo m (ls.map clP) q).length) qc] isA_32 sz_32 rfl .here rfl) ?_
          refine Ops.stB [.slice pa (((([] : List Prm) ++ (List.replicate (m + 1) (1 : Int)).map (setTh (onceP 0))) ++ (ls.take k).map (fun l : CL => setTh (onceP 0) (max 1 (l.1.2.length : Int)))).length) pc, .int .i64 1, .slice qa (((([] : List Syn) ++ selvesFrom 0 ((([] : List Prm) ++ (List.replicate (m + 1) (1 : Int)).map (setTh (onceP 0))) ++ (ls.take k).map (fun l : CL => setTh (onceP 0) (max 1 (l.1.2.length : Int)))).length) ++ clTo m (ls.map clP) q).length) qc] [.slice pa (((([] : List Prm) ++ (List.replicate (m + 1) (1 : Int)).map (setTh (onceP 0))) ++ (ls.take k).map (fun l : CL => setTh (onceP 0) (max 1 (l.1.2.length : Int)))).length) pc, .int .i64 1, .slice qa (((([] : List Syn) ++ selvesFrom 0 ((([] : List Prm) ++ (List.replicate (m + 1) (1 : Int)).map (setTh (onceP 0))) ++ (ls.take k).map (fun l : CL => setTh (onceP 0) (max 1 (l.1.2.length : Int)))).length) ++ clTo m (ls.map clP) q).length) qc] sz_32 rfl rfl rfl (one rfl) (.there (.there (.there .here))) rfl rfl ?_
          refine Ops.q (q_asg rfl) ?_
          refine Ops.to rfl ?_
          refine Cd.rt (fn := Try.f26) [.agg [.slice pa (((([] : List Prm) ++ (List.replicate (m + 1) (1 : Int)).map (setTh (onceP 0))) ++ (ls.take k).map (fun l : CL => setTh (onceP 0) (max 1 (l.1.2.length : Int)))).length) pc, .int .i64 1, .slice qa (((([] : List Syn) ++ selvesFrom 0 ((([] : List Prm) ++ (List.replicate (m + 1) (1 : Int)).map (setTh (onceP 0))) ++ (ls.take k).map (fun l : CL => setTh (onceP 0) (max 1 (l.1.2.length : Int)))).length) ++ clTo m (ls.map clP) q).length) qc].toArray, .int .i64 0] (by with_reducible repeat (first | exact rq_here | apply rq_then | apply rq_block)) rfl ⟨⟨_, _, rfl, fun _ hs => run_loadN isA_32 sz_32 (fun o u hu => Sat.atB (.there (.there (.there .here))) (by rw [Nat.zero_add]; exact hu) hs)⟩, rfl, trivial⟩ ?_
          intro w' hs'
          have hq : q = ls.length := by omega
          rw [hq, List.take_of_length_le (show ls.length ≤ k by omega)] at hs'
          have hP : hornP (m : Int) (ls.map clP) = .ok ⟨((([] : List Prm) ++ (List.replicate (m + 1) (1 : Int)).map (setTh (onceP 0))) ++ ls.map (fun l : CL => setTh (onceP 0) (max 1 (l.1.2.length : Int)))), 1, ((([] : List Syn) ++ selvesFrom 0 ((([] : List Prm) ++ (List.replicate (m + 1) (1 : Int)).map (setTh (onceP 0))) ++ ls.map (fun l : CL => setTh (onceP 0) (max 1 (l.1.2.length : Int)))).length) ++ clTo m (ls.map clP) ls.length)⟩ := by unfold hornP; rw [if_pos h2, if_neg (by rw [List.length_map]; omega), h9, if_neg (by decide)]; simp only [List.nil_append, List.length_append, List.length_map, List.length_replicate, List.map_replicate, List.map_map, Int.toNat_natCast]; rfl
          rw [hP]
          exact ⟨(pa, pc), (qa, qc), by rw [hq, List.take_of_length_le (show ls.length ≤ k by omega)]; rfl, ((((hs'.pull (.there (.there .here))).pull (.there (.there .here))).pull (.there (.there .here))).drop.pull (.there (.there .here))).drop⟩
  · refine Ops.cp en_57 rfl (fun w hs => dF (in_c _ _ _ w) h2) ?_
    refine Ops.q (q_not rfl) ?_
    refine Ops.q (q_asg rfl) ?_
    refine Ops.to rfl ?_
    refine Cd.cond_t rfl ?_
    refine Cd.seq ?_
    refine Cd.region ?_
    refine Ops.q (q_bld [.slice none 0 0, .int .i64 0, .slice none 0 0] pls_32 zc_32 rfl rfl) ?_
    refine Ops.stB [.slice none 0 0, .int .i64 0, .slice none 0 0] [.slice none 0 0, .int .i64 0, .slice none 0 0] sz_32 rfl rfl rfl (one rfl) .here rfl rfl ?_
    refine Ops.q (q_asg rfl) ?_
    refine Ops.to rfl ?_
    refine Cd.rt (fn := Try.f26) [.agg [.slice none 0 0, .int .i64 0, .slice none 0 0].toArray, .int .i64 3] (by with_reducible repeat (first | exact rq_here | apply rq_then | apply rq_block)) rfl ⟨⟨_, _, rfl, fun _ hs => run_loadN isA_32 sz_32 (fun o u hu => Sat.atB .here (by rw [Nat.zero_add]; exact hu) hs)⟩, rfl, trivial⟩ ?_
    intro w' hs'
    rw [show hornP n (ls.map clP) = .error 3 by unfold hornP; rw [if_neg h2]]
    exact ⟨rfl, hs'.none⟩
end Go.Proofs.Ytilcdghliigngaa
namespace Go.Proofs.Ytilcdghliigngaa
open Go.RowKit Go.Proofs.YtilcdghliigngaaGl Go.Proofs.YtilcdghliigngaaPm
set_option linter.unusedVariables false
set_option linter.unusedSimpArgs false
abbrev PR := NL × NL
abbrev prP (l : PR) : List Int × List Int := (l.1.2, l.2.2)
def ePr (l : PR) : List Value := [.slice l.1.1.1 l.1.2.length l.1.1.2, .slice l.2.1.1 l.2.2.length l.2.1.2]
theorem ePr_len (l : PR) : (ePr l).length = 2 := rfl
def RoPR (w : World) (a : Option Addr) (ls : List PR) : Prop := RoL w a ePr ls ∧ ∀ l ∈ ls, RoL w l.1.1.1 eInt l.1.2 ∧ RoL w l.2.1.1 eInt l.2.2
theorem RoPR.later {w w' : World} {a : Option Addr} {ls : List PR} (h : RoPR w a ls) (hb : Below w.heap.size w w') : RoPR w' a ls := ⟨RoL.later h.1 hb, fun l hl => ⟨RoL.later (h.2 l hl).1 hb, RoL.later (h.2 l hl).2 hb⟩⟩
def memE (m n : Int) (p : List Int × List Int) : Int := if setE m p.1 = 4 ∨ setE n p.2 = 4 then 4 else if setE m p.1 ≠ 0 ∨ setE n p.2 ≠ 0 then 5 else 0
def prodS (p : List Int × List Int) : List (Int × Int) := p.2.flatMap fun j => p.1.map fun i => (i, j)
def togS (ps : List (List Int × List Int)) : List (Int × Int) := ps.flatMap prodS
def memCell (S : List (Int × Int)) (j i : Nat) : List Syn := if ((i : Int), (j : Int)) ∈ S then [] else [⟨-1 - (i : Int), (j : Int), -1, 1⟩]
def memRow (m : Nat) (S : List (Int × Int)) (j i : Nat) : List Syn := (List.range i).flatMap (memCell S j)
def memTo (m : Nat) (S : List (Int × Int)) (j : Nat) : List Syn := (List.range j).flatMap fun q => [⟨-1 - (m : Int), (q : Int), 1, 1⟩] ++ memRow m S q m
def memP (m n : Int) (ps : List (List Int × List Int)) : Except Int NetP :=
  if wi m 1 64 ∧ wi n 1 64 then
    if 256 < ps.length then .error 9
    else if firstE (memE m n) ps ≠ 0 then .error (firstE (memE m n) ps)
    else .ok ⟨List.replicate n.toNat (gateP 1), m + 1, memTo m.toNat (togS ps) n.toNat⟩
  else .error 3
theorem memCell_len (S : List (Int × Int)) (j i : Nat) : (memCell S j i).length ≤ 1 := by unfold memCell; split <;> simp
theorem memRow_len (m : Nat) (S : List (Int × Int)) (j : Nat) : ∀ i, (memRow m S j i).length ≤ i
  | 0 => by simp [memRow]
  | i + 1 => by
    have ih := memRow_len m S j i
    have h := memCell_len S j i
    unfold memRow at ih ⊢
    rw [rf_app, List.length_append]; omega
theorem memTo_len (m : Nat) (S : List (Int × Int)) : ∀ j, (memTo m S j).length ≤ j * (m + 1)
  | 0 => by simp [memTo]
  | j + 1 => by
    have ih := memTo_len m S j
    have h := memRow_len m S j m
    unfold memTo at ih ⊢
    rw [rf_app, List.length_append, List.length_append, Nat.succ_mul]
    simp only [List.length_cons, List.length_nil]; omega
theorem memRow_step {m j i : Nat} {S : List (Int × Int)} (X : List Syn) : X ++ memRow m S j (i + 1) = (X ++ memRow m S j i) ++ memCell S j i := by
  unfold memRow; rw [rf_app, List.append_assoc]
theorem memTo_step {m j : Nat} {S : List (Int × Int)} (X : List Syn) : X ++ memTo m S (j + 1) = ((X ++ memTo m S j) ++ [⟨-1 - (m : Int), (j : Int), 1, 1⟩]) ++ memRow m S j m := by
  unfold memTo; rw [rf_app]; simp
def tgL (S : List (Int × Int)) : List Bool := (List.range 4096).map fun q => decide ((((q % 64 : Nat) : Int), ((q / 64 : Nat) : Int)) ∈ S)
theorem tgL_len (S : List (Int × Int)) : (tgL S).length = 4096 := by simp [tgL]
theorem tgL_get {S : List (Int × Int)} {i j : Nat} (hi : i < 64) (hj : j < 64) : (tgL S)[j * 64 + i]? = some (decide (((i : Int), (j : Int)) ∈ S)) := by
  have h1 : (j * 64 + i) % 64 = i := by omega
  have h2 : (j * 64 + i) / 64 = j := by omega
  unfold tgL
  rw [List.getElem?_map, List.getElem?_range (by omega)]
  simp only [Option.map_some, h1, h2]
theorem tgL_set {S : List (Int × Int)} {i j : Nat} (hi : i < 64) (hj : j < 64) : (tgL S).set (j * 64 + i) true = tgL (S ++ [((i : Int), (j : Int))]) := by
  apply List.ext_getElem?
  intro q
  rw [List.getElem?_set, tgL_len]
  by_cases hq : q < 4096
  · have e : ∀ S, (tgL S)[q]? = some (decide ((((q % 64 : Nat) : Int), ((q / 64 : Nat) : Int)) ∈ S)) := fun S => by
      unfold tgL; rw [List.getElem?_map, List.getElem?_range hq]; rfl
    rw [e, e]
    by_cases h : j * 64 + i = q
    · subst h
      have h1 : (j * 64 + i) % 64 = i := by omega
      have h2 : (j * 64 + i) / 64 = j := by omega
      rw [if_pos rfl, if_pos (by omega), h1, h2]
      simp
    · rw [if_neg h]
      have hne : ¬ (((q % 64 : Nat) : Int), ((q / 64 : Nat) : Int)) = ((i : Int), (j : Int)) := fun e => by
        simp only [Prod.mk.injEq] at e; omega
      rw [decide_eq_decide.2 (show _ ∈ S ↔ _ ∈ S ++ [_] from by rw [List.mem_append, List.mem_singleton]; exact ⟨.inl, fun h => h.resolve_right hne⟩)]
  · rw [if_neg (by omega)]
    rw [List.getElem?_eq_none (by rw [tgL_len]; omega), List.getElem?_eq_none (by rw [tgL_len]; omega)]
theorem fmB (xs : List Bool) : xs.flatMap eBool = xs.map .bool := by
  induction xs with
  | nil => rfl
  | cons x xs ih => rw [List.flatMap_cons, ih]; rfl
theorem tg0 : (tgL []).flatMap eBool = List.replicate 4096 (.bool false) := by
  rw [fmB, tgL, List.map_map]
  refine List.eq_replicate_iff.2 ⟨by simp, fun b hb => ?_⟩
  obtain ⟨q, _, rfl⟩ := List.mem_map.1 hb
  simp
theorem zc_135 : zc Try.prog 135 = some (List.replicate 4096 (.bool false)) := by kernel_rfl
theorem tg_get {S : List (Int × Int)} {i j : Nat} (hi : i < 64) (hj : j < 64) : ((tgL S).flatMap eBool)[0 + j * 64 + i * 1]? = some (.bool (decide (((i : Int), (j : Int)) ∈ S))) := by
  rw [fmB, List.getElem?_map, show 0 + j * 64 + i * 1 = j * 64 + i by omega, tgL_get hi hj]; rfl
theorem tg_set {S : List (Int × Int)} {i j : Nat} (hi : i < 64) (hj : j < 64) : ((tgL S).flatMap eBool).take (0 + j * 64 + i * 1) ++ [.bool true] ++ ((tgL S).flatMap eBool).drop (0 + j * 64 + i * 1 + [Value.bool true].length) = (tgL (S ++ [((i : Int), (j : Int))])).flatMap eBool := by
  have := fm_set eBool_len (tgL S) (j * 64 + i) true (by rw [tgL_len]; omega)
  rw [tgL_set hi hj] at this
  rw [← this, show 0 + (j * 64 + i) * 1 = 0 + j * 64 + i * 1 by omega]; rfl
theorem tg_len (S : List (Int × Int)) : ((tgL S).flatMap eBool).length = 4096 := by rw [fm_length eBool_len, tgL_len]
theorem setE_ok {n : Int} {xs : List Int} (h : setE n xs = 0) : ∀ x ∈ xs, wi x 0 (n - 1) := by
  unfold setE at h
  split at h
  · assumption
  · cases h
theorem togS_step {ps : List (List Int × List Int)} {k : Nat} {p : List Int × List Int} (h : ps[k]? = some p) : togS (ps.take (k + 1)) = togS (ps.take k) ++ prodS p := by
  unfold togS; rw [List.take_add_one, h, List.flatMap_append]; simp
theorem fmT36 {α β : Type} (f : α → List β) {xs : List α} {k : Nat} {x : α} (h : xs[k]? = some x) : (xs.take (k + 1)).flatMap f = (xs.take k).flatMap f ++ f x := by
  rw [List.take_add_one, h, List.flatMap_append]; simp
theorem memE_4 {m n : Int} {p : List Int × List Int} (h : setE m p.1 = 4 ∨ setE n p.2 = 4) : memE m n p = 4 := by unfold memE; rw [if_pos h]
theorem memE_5 {m n : Int} {p : List Int × List Int} (h : ¬ (setE m p.1 = 4 ∨ setE n p.2 = 4)) (h2 : setE m p.1 ≠ 0 ∨ setE n p.2 ≠ 0) : memE m n p = 5 := by unfold memE; rw [if_neg h, if_pos h2]
theorem memE_0 {m n : Int} {p : List Int × List Int} (h2 : setE m p.1 = 0) (h3 : setE n p.2 = 0) : memE m n p = 0 := by unfold memE; rw [h2, h3]; rfl
theorem memory_c (mi ni : Int) (la : Option Addr) (lc : Nat) (ls : List PR) (w : World) (hL : RoPR w la ls) (hlen : ∀ l ∈ ls, l.1.2.length ≤ 1000000 ∧ l.2.2.length ≤ 1000000) : Calls Try.prog 28 [.int .i64 mi, .int .i64 ni, .slice la ls.length lc].toArray w (RetR (memP mi ni (ls.map prP)) w) := by
  refine fstart Try.func28 rfl rfl (Sat.nil w) ?_
  refine Cd.seq ?_
  refine Cd.region ?_
  refine Ops.alc [.slice none 0 0, .int .i64 0, .slice none 0 0] zc_32 ?_
  intro b1
  refine Ops.q (q_asg rfl) ?_
  refine Ops.to rfl ?_
  refine Cd.seq ?_
  refine Cd.block ?_
  refine Cd.seq ?_
  refine Cd.region ?_
  refine Ops.q (q_mv rfl) ?_
  by_cases h2 : wi mi 1 64
  · refine Ops.cp en_57 rfl (fun w hs => dT (in_c _ _ _ w) h2) ?_
    refine Ops.q (q_not rfl) ?_
    refine Ops.q (q_mv rfl) ?_
    refine Ops.q (q_mv rfl) ?_
    by_cases h3 : wi ni 1 64
    · refine Ops.cp en_57 rfl (fun w hs => dT (in_c _ _ _ w) h3) ?_
      refine Ops.q (q_not rfl) ?_
      refine Ops.q (q_pickF rfl rfl) ?_
      refine Ops.q (q_asg rfl) ?_
      refine Ops.to rfl ?_
      refine Cd.cond_f rfl ?_
      refine Cd.seq ?_
      refine Cd.region ?_
      have hwm : wi mi 1 64 := h2
      have hwn : wi ni 1 64 := h3
      obtain ⟨m, rfl⟩ : ∃ j : Nat, mi = (j : Int) := ⟨mi.toNat, by unfold wi at hwm; omega⟩
      obtain ⟨n, rfl⟩ : ∃ j : Nat, ni = (j : Int) := ⟨ni.toNat, by unfold wi at hwn; omega⟩
      have hm : 1 ≤ m ∧ m ≤ 64 := by unfold wi at hwm; omega
      have hn : 1 ≤ n ∧ n ≤ 64 := by unfold wi at hwn; omega
      have hwmn : wi (m : Int) 1 64 ∧ wi (n : Int) 1 64 := ⟨hwm, hwn⟩
      refine Ops.q (q_mv rfl) ?_
      refine Ops.q (q_len esz_58 rfl) ?_
      by_cases h4 : 256 < (ls.length : Int)
      · refine Ops.q (q_cmp rfl rfl (c_gt h4)) ?_
        refine Ops.q (q_asg rfl) ?_
        refine Ops.to rfl ?_
        refine Cd.cond_t rfl ?_
        refine Cd.seq ?_
        refine Cd.region ?_
        refine Ops.q (q_bld [.slice none 0 0, .int .i64 0, .slice none 0 0] pls_32 zc_32 rfl rfl) ?_
        refine Ops.stB [.slice none 0 0, .int .i64 0, .slice none 0 0] [.slice none 0 0, .int .i64 0, .slice none 0 0] sz_32 rfl rfl rfl (one rfl) .here rfl rfl ?_
        refine Ops.q (q_asg rfl) ?_
        refine Ops.to rfl ?_
        refine Cd.rt (fn := Try.f28) [.agg [.slice none 0 0, .int .i64 0, .slice none 0 0].toArray, .int .i64 9] (by with_reducible repeat (first | exact rq_here | apply rq_then | apply rq_block)) rfl ⟨⟨_, _, rfl, fun _ hs => run_loadN isA_32 sz_32 (fun o u hu => Sat.atB .here (by rw [Nat.zero_add]; exact hu) hs)⟩, rfl, trivial⟩ ?_
        intro w' hs'
        rw [show memP (m : Int) (n : Int) (ls.map prP) = .error 9 by unfold memP; rw [if_pos hwmn, if_pos (by rw [List.length_map]; omega)]]
        exact ⟨rfl, hs'.none⟩
      · refine Ops.q (q_cmp rfl rfl (c_ngt (by omega))) ?_
        refine Ops.q (q_asg rfl) ?_
        refine Ops.to rfl ?_
        refine Cd.cond_f rfl ?_
        refine Cd.skipTo rfl ?_
        refine Cd.seq ?_
        refine Cd.region ?_
        refine Ops.alc ((tgL []).flatMap eBool) (by rw [tg0]; exact zc_135) ?_
        intro tbl
        refine Ops.to rfl ?_
        refine Cd.seq ?_
        refine Cd.seq ?_
        refine Cd.region ?_
        refine Ops.q (q_mv rfl) ?_
        refine Ops.q (q_len esz_58 rfl) ?_
        refine Ops.q (q_mv rfl) ?_
        refine Ops.to rfl ?_
        refine Cd.block ?_
        refine Cd.lp (σ := Nat) (fun k => k ≤ ls.length ∧ firstE (memE (m : Int) (n : Int)) ((ls.map prP).drop k) = firstE (memE (m : Int) (n : Int)) (ls.map prP)) (fun k => [(0, .int .i64 (m : Int)), (1, .int .i64 (n : Int)), (2, .slice la ls.length lc), (6, .pointer (some ⟨b1, 0, none⟩)), (8, .pointer (some ⟨tbl, 0, none⟩)), (36, .slice la ls.length lc), (37, .int .i64 (ls.length : Int)), (38, .int .i64 (k : Int))]) (fun k => [blk tbl 135 ((tgL (togS ((ls.map prP).take k))).flatMap eBool), blk b1 32 [.slice none 0 0, .int .i64 0, .slice none 0 0]]) (fun k => ls.length - k) 0 ⟨Nat.zero_le _, rfl⟩ ⟨rfl, rfl, rfl, rfl, rfl, rfl, rfl, rfl, trivial⟩ (fun _ hs => by have h1 := ((hs.pull (.there .here)).pull (.there .here)); exact h1) ?_
        intro k hI
        have hI1 := hI.1
        have hIk := hI
        refine Cd.seq ?_
        refine Cd.region ?_
        by_cases hk : (k : Int) < (ls.length : Int)
        · refine Ops.q (q_cmp rfl rfl (c_lt hk)) ?_
          obtain ⟨⟨⟨⟨ia, ic⟩, xi⟩, ⟨⟨oa, oc⟩, xo⟩⟩, hx⟩ : ∃ x, ls[k]? = some x := ⟨_, List.getElem?_eq_getElem (by omega)⟩
          have hxm := List.mem_iff_getElem?.2 ⟨k, hx⟩
          have hxe : RoL w ia eInt xi := (hL.2 _ hxm).1
          have hxo : RoL w oa eInt xo := (hL.2 _ hxm).2
          have hxl : xi.length ≤ 1000000 ∧ xo.length ≤ 1000000 := hlen _ hxm
          have hxq : (ls.map prP)[k]? = some (xi, xo) := by rw [List.getElem?_map, hx]; rfl
          obtain ⟨lb, lo, rfl⟩ := RoL.pos hL.1 ePr_len hx
          refine Ops.to rfl ?_
          refine Cd.seq ?_
          refine Cd.cond_t rfl ?_
          refine Cd.skipTo rfl ?_
          refine Cd.seq ?_
          refine Cd.block ?_
          refine Cd.seq ?_
          refine Cd.region ?_
          refine Ops.q (q_ix (k := k) esz_58 rfl rfl (by omega)) ?_
          refine Ops.q (q_ldRN [.slice ia xi.length ic, .slice oa xo.length oc] isA_61 sz_61 rfl (fun j u hu => hL.1.at ePr_len hx hu)) ?_
          refine Ops.alc [.slice none 0 0, .slice none 0 0] zc_61 ?_
          intro b5
          refine Ops.stB [.slice ia xi.length ic, .slice oa xo.length oc] [.slice ia xi.length ic, .slice oa xo.length oc] sz_61 rfl rfl rfl (one rfl) .here rfl rfl ?_
          refine Ops.to rfl ?_
          refine Cd.seq ?_
          refine Cd.draw rfl (by kernel_rfl) (.cons .here .nil) ?_
          intro F6 St7 hP8 hF9 hR10
          refine Dr.q (i := 0) hP8 rfl (by kernel_rfl) (q_fa fo_61_0 rfl) ?_
          refine Dr.q (i := 1) hP8 rfl (by kernel_rfl) (q_ldB isA_26 rfl .here rfl) ?_
          refine Dr.q (i := 2) hP8 rfl (by kernel_rfl) (q_mv rfl) ?_
          refine Dr.q (i := 5) hP8 rfl (by kernel_rfl) (q_fa fo_61_1 rfl) ?_
          refine Dr.q (i := 6) hP8 rfl (by kernel_rfl) (q_ldB isA_26 rfl .here rfl) ?_
          refine Dr.q (i := 7) hP8 rfl (by kernel_rfl) (q_mv rfl) ?_
          refine Dr.e (i := 3) rfl (by kernel_rfl) ?_
          refine Ops.cl (α := Nat) (v := fun b => .func (.func 92) #[] #[.pointer (some ⟨b, 0, none⟩)]) (B := fun b => [blk b 3 [.int .i64 (m : Int)]]) en_65 rfl (fun w hs => below_c (m : Int) w) ?_
          intro bl11
          refine Dr.back (fun _ hs => hF9 (.there .here) hs) ?_
          refine Dr.e (i := 4) rfl (by kernel_rfl) ?_
          refine Ops.cm (α := Unit) (v := fun _ => .int .i64 (setE (m : Int) xi)) (A' := fun _ => [blk bl11 3 [.int .i64 (m : Int)], F6, blk tbl 135 ((tgL (togS ((ls.map prP).take k))).flatMap eBool), blk b1 32 [.slice none 0 0, .int .i64 0, .slice none 0 0]]) en_64 rfl (fun w hs => (different_c bl11 _ _ xi _ _ w _ hxe hxl.1 (by omega) (((((hs.pull (.there (.there (.there .here)))).pull (.there (.there (.there .here)))).pull (.there (.there (.there .here)))).pull (.there (.there (.there .here)))))).mono fun e w' h => ⟨(), h.1, h.2⟩) ?_
          intro _
          refine Dr.back (fun _ hs => hF9 (.there .here) hs) ?_
          refine Dr.e (i := 8) rfl (by kernel_rfl) ?_
          refine Ops.cl (α := Nat) (v := fun b => .func (.func 92) #[] #[.pointer (some ⟨b, 0, none⟩)]) (B := fun b => [blk b 3 [.int .i64 (n : Int)]]) en_65 rfl (fun w hs => below_c (n : Int) w) ?_
          intro bl12
          refine Dr.back (fun _ hs => hF9 (.there (.there .here)) hs) ?_
          refine Dr.e (i := 9) rfl (by kernel_rfl) ?_
          refine Ops.cm (α := Unit) (v := fun _ => .int .i64 (setE (n : Int) xo)) (A' := fun _ => [blk bl12 3 [.int .i64 (n : Int)], blk bl11 3 [.int .i64 (m : Int)], F6, blk tbl 135 ((tgL (togS ((ls.map prP).take k))).flatMap eBool), blk b1 32 [.slice none 0 0, .int .i64 0, .slice none 0 0]]) en_64 rfl (fun w hs => (different_c bl12 _ _ xo _ _ w _ hxo hxl.2 (by omega) ((((((hs.pull (.there (.there (.there (.there .here))))).pull (.there (.there (.there (.there .here))))).pull (.there (.there (.there (.there .here))))).pull (.there (.there (.there (.there .here))))).pull (.there (.there (.there (.there .here))))))).mono fun e w' h => ⟨(), h.1, h.2⟩) ?_
          intro _
          refine Dr.back (fun _ hs => hF9 (.there (.there .here)) hs) ?_
          refine Dr.q (i := 10) hP8 rfl (by kernel_rfl) (q_asg rfl) ?_
          refine Dr.tail 11 (by kernel_rfl) ?_
          refine Ops.sat ?_ (fun _ hs => hR10 (.there (.there .here)) hs)
          refine Ops.q (q_asg rfl) ?_
          refine Ops.to rfl ?_
          refine Cd.seq ?_
          refine Cd.block ?_
          refine Cd.seq ?_
          refine Cd.region ?_
          refine Ops.q (q_mv rfl) ?_
          by_cases he4 : setE (m : Int) xi = 4
          · refine Ops.q (q_cmp rfl rfl (c_eq he4)) ?_
            refine Ops.q (q_mv rfl) ?_
            refine Ops.sk ?_
            refine Ops.sk ?_
            refine Ops.q (q_pickT rfl rfl) ?_
            refine Ops.q (q_asg rfl) ?_
            refine Ops.to rfl ?_
            refine Cd.cond_t rfl ?_
            refine Cd.seq ?_
            refine Cd.region ?_
            refine Ops.q (q_bld [.slice none 0 0, .int .i64 0, .slice none 0 0] pls_32 zc_32 rfl rfl) ?_
            refine Ops.stB [.slice none 0 0, .int .i64 0, .slice none 0 0] [.slice none 0 0, .int .i64 0, .slice none 0 0] sz_32 rfl rfl rfl (one rfl) (.there (.there (.there (.there .here)))) rfl rfl ?_
            refine Ops.q (q_asg rfl) ?_
            refine Ops.to rfl ?_
            refine Cd.rt (fn := Try.f28) [.agg [.slice none 0 0, .int .i64 0, .slice none 0 0].toArray, .int .i64 4] (by with_reducible repeat (first | exact rq_here | apply rq_then | apply rq_block)) rfl ⟨⟨_, _, rfl, fun _ hs => run_loadN isA_32 sz_32 (fun o u hu => Sat.atB (.there (.there (.there (.there .here)))) (by rw [Nat.zero_add]; exact hu) hs)⟩, rfl, trivial⟩ ?_
            intro w' hs'
            have h8 : memE (m : Int) (n : Int) (xi, xo) = 4 := memE_4 (by simp_all)
            have h9 : firstE (memE (m : Int) (n : Int)) (ls.map prP) = 4 := by rw [← hI.2, firstE_stop hxq (by rw [h8]; decide), h8]
            rw [show memP (m : Int) (n : Int) (ls.map prP) = .error (4) by unfold memP; rw [if_pos hwmn, if_neg (by rw [List.length_map]; omega), h9, if_pos (by decide)]]
            exact ⟨rfl, hs'.none⟩
          · refine Ops.q (q_cmp rfl rfl (c_neq he4)) ?_
            refine Ops.q (q_mv rfl) ?_
            refine Ops.q (q_mv rfl) ?_
            by_cases ho4 : setE (n : Int) xo = 4
            · refine Ops.q (q_cmp rfl rfl (c_eq ho4)) ?_
              refine Ops.q (q_pickF rfl rfl) ?_
              refine Ops.q (q_asg rfl) ?_
              refine Ops.to rfl ?_
              refine Cd.cond_t rfl ?_
              refine Cd.seq ?_
              refine Cd.region ?_
              refine Ops.q (q_bld [.slice none 0 0, .int .i64 0, .slice none 0 0] pls_32 zc_32 rfl rfl) ?_
              refine Ops.stB [.slice none 0 0, .int .i64 0, .slice none 0 0] [.slice none 0 0, .int .i64 0, .slice none 0 0] sz_32 rfl rfl rfl (one rfl) (.there (.there (.there (.there .here)))) rfl rfl ?_
              refine Ops.q (q_asg rfl) ?_
              refine Ops.to rfl ?_
              refine Cd.rt (fn := Try.f28) [.agg [.slice none 0 0, .int .i64 0, .slice none 0 0].toArray, .int .i64 4] (by with_reducible repeat (first | exact rq_here | apply rq_then | apply rq_block)) rfl ⟨⟨_, _, rfl, fun _ hs => run_loadN isA_32 sz_32 (fun o u hu => Sat.atB (.there (.there (.there (.there .here)))) (by rw [Nat.zero_add]; exact hu) hs)⟩, rfl, trivial⟩ ?_
              intro w' hs'
              have h8 : memE (m : Int) (n : Int) (xi, xo) = 4 := memE_4 (by simp_all)
              have h9 : firstE (memE (m : Int) (n : Int)) (ls.map prP) = 4 := by rw [← hI.2, firstE_stop hxq (by rw [h8]; decide), h8]
              rw [show memP (m : Int) (n : Int) (ls.map prP) = .error (4) by unfold memP; rw [if_pos hwmn, if_neg (by rw [List.length_map]; omega), h9, if_pos (by decide)]]
              exact ⟨rfl, hs'.none⟩
            · refine Ops.q (q_cmp rfl rfl (c_neq ho4)) ?_
              refine Ops.q (q_pickF rfl rfl) ?_
              refine Ops.q (q_asg rfl) ?_
              refine Ops.to rfl ?_
              refine Cd.cond_f rfl ?_
              refine Cd.seq ?_
              refine Cd.region ?_
              refine Ops.q (q_mv rfl) ?_
              by_cases hse0 : setE (m : Int) xi = 0
              · refine Ops.q (q_cmp rfl rfl (c_nne hse0)) ?_
                refine Ops.q (q_mv rfl) ?_
                refine Ops.q (q_mv rfl) ?_
                by_cases hso0 : setE (n : Int) xo = 0
                · refine Ops.q (q_cmp rfl rfl (c_nne hso0)) ?_
                  refine Ops.q (q_pickF rfl rfl) ?_
                  refine Ops.q (q_asg rfl) ?_
                  refine Ops.to rfl ?_
                  refine Cd.cond_f rfl ?_
                  refine Cd.skipTo rfl ?_
                  refine Cd.seq ?_
                  refine Cd.region ?_
                  refine Ops.q (q_fa fo_61_1 rfl) ?_
                  refine Ops.q (q_ldB isA_26 rfl .here rfl) ?_
                  refine Ops.q (q_len esz_26 rfl) ?_
                  refine Ops.q (q_mv rfl) ?_
                  refine Ops.to rfl ?_
                  refine Cd.block ?_
                  refine Cd.lp (σ := Nat) (fun a => a ≤ xo.length) (fun a => [(0, .int .i64 (m : Int)), (1, .int .i64 (n : Int)), (2, .slice (some ⟨lb, lo, none⟩) ls.length lc), (6, .pointer (some ⟨b1, 0, none⟩)), (8, .pointer (some ⟨tbl, 0, none⟩)), (36, .slice (some ⟨lb, lo, none⟩) ls.length lc), (37, .int .i64 (ls.length : Int)), (38, .int .i64 (k : Int)), (10, .pointer (some ⟨b5, 0, none⟩)), (69, .slice oa xo.length oc), (70, .int .i64 (xo.length : Int)), (71, .int .i64 (a : Int))]) (fun a => [blk tbl 135 ((tgL ((togS ((ls.map prP).take k)) ++ (xo.take a).flatMap (fun j : Int => xi.map fun i => (i, j)))).flatMap eBool), blk b5 61 [.slice ia xi.length ic, .slice oa xo.length oc], blk b1 32 [.slice none 0 0, .int .i64 0, .slice none 0 0]]) (fun a => xo.length - a) 0 (Nat.zero_le _) ⟨rfl, rfl, rfl, rfl, rfl, rfl, rfl, rfl, rfl, rfl, rfl, rfl, trivial⟩ (fun _ hs => by have h1 := (((((hs.pull (.there (.there (.there (.there .here))))).pull (.there .here)).pull (.there (.there (.there (.there .here))))).pull (.there (.there (.there .here)))).drop.pull (.there (.there (.there .here)))).drop; (try dsimp only); rw [show ((togS ((ls.map prP).take k)) ++ (xo.take 0).flatMap (fun j : Int => xi.map fun i => (i, j))) = (togS ((ls.map prP).take k)) from List.append_nil _]; exact h1) ?_
                  intro a hI
                  have hIa := hI
                  refine Cd.seq ?_
                  refine Cd.region ?_
                  by_cases ha : (a : Int) < (xo.length : Int)
                  · refine Ops.q (q_cmp rfl rfl (c_lt ha)) ?_
                    obtain ⟨yo, hy⟩ : ∃ x, xo[a]? = some x := ⟨_, List.getElem?_eq_getElem (by omega)⟩
                    obtain ⟨ob, oo, rfl⟩ := RoL.pos hxo eInt_len hy
                    have hyw := setE_ok hso0 yo (List.mem_iff_getElem?.2 ⟨a, hy⟩)
                    unfold wi at hyw
                    obtain ⟨yn, hyn⟩ : ∃ j : Nat, yo = (j : Int) := ⟨yo.toNat, by omega⟩
                    refine Ops.to rfl ?_
                    refine Cd.seq ?_
                    refine Cd.cond_t rfl ?_
                    refine Cd.skipTo rfl ?_
                    refine Cd.seq ?_
                    refine Cd.block ?_
                    refine Cd.seq ?_
                    refine Cd.region ?_
                    refine Ops.q (q_ix (k := a) esz_26 rfl rfl (by omega)) ?_
                    refine Ops.q (q_ldR isA_3 rfl (hxo.at0 eInt_len hy rfl)) ?_
                    refine Ops.q (q_asg rfl) ?_
                    refine Ops.to rfl ?_
                    refine Cd.seq ?_
                    refine Cd.region ?_
                    refine Ops.q (q_fa fo_61_0 rfl) ?_
                    refine Ops.q (q_ldB isA_26 rfl (.there .here) rfl) ?_
                    refine Ops.q (q_len esz_26 rfl) ?_
                    refine Ops.q (q_mv rfl) ?_
                    refine Ops.to rfl ?_
                    refine Cd.block ?_
                    refine Cd.lp (σ := Nat) (fun b => b ≤ xi.length) (fun b => [(0, .int .i64 (m : Int)), (1, .int .i64 (n : Int)), (2, .slice (some ⟨lb, lo, none⟩) ls.length lc), (6, .pointer (some ⟨b1, 0, none⟩)), (8, .pointer (some ⟨tbl, 0, none⟩)), (36, .slice (some ⟨lb, lo, none⟩) ls.length lc), (37, .int .i64 (ls.length : Int)), (38, .int .i64 (k : Int)), (10, .pointer (some ⟨b5, 0, none⟩)), (69, .slice (some ⟨ob, oo, none⟩) xo.length oc), (70, .int .i64 (xo.length : Int)), (71, .int .i64 (a : Int)), (14, .int .i64 yo), (76, .slice ia xi.length ic), (77, .int .i64 (xi.length : Int)), (78, .int .i64 (b : Int))]) (fun b => [blk tbl 135 ((tgL (((togS ((ls.map prP).take k)) ++ (xo.take a).flatMap (fun j : Int => xi.map fun i => (i, j))) ++ (xi.take b).map (fun i => (i, yo)))).flatMap eBool), blk b5 61 [.slice ia xi.length ic, .slice (some ⟨ob, oo, none⟩) xo.length oc], blk b1 32 [.slice none 0 0, .int .i64 0, .slice none 0 0]]) (fun b => xi.length - b) 0 (Nat.zero_le _) ⟨rfl, rfl, rfl, rfl, rfl, rfl, rfl, rfl, rfl, rfl, rfl, rfl, rfl, rfl, rfl, rfl, trivial⟩ (fun _ hs => by have h1 := (((hs.pull (.there (.there .here))).pull (.there (.there .here))).pull (.there (.there .here))); (try dsimp only); rw [show (((togS ((ls.map prP).take k)) ++ (xo.take a).flatMap (fun j : Int => xi.map fun i => (i, j))) ++ (xi.take 0).map (fun i => (i, yo))) = ((togS ((ls.map prP).take k)) ++ (xo.take a).flatMap (fun j : Int => xi.map fun i => (i, j))) from List.append_nil _]; exact h1) ?_
                    intro b hI
                    have hIb := hI
                    refine Cd.seq ?_
                    refine Cd.region ?_
                    by_cases hb : (b : Int) < (xi.length : Int)
                    · refine Ops.q (q_cmp rfl rfl (c_lt hb)) ?_
                      obtain ⟨zi, hz⟩ : ∃ x, xi[b]? = some x := ⟨_, List.getElem?_eq_getElem (by omega)⟩
                      obtain ⟨ib, io, rfl⟩ := RoL.pos hxe eInt_len hz
                      have hzw := setE_ok hse0 zi (List.mem_iff_getElem?.2 ⟨b, hz⟩)
                      unfold wi at hzw
                      obtain ⟨zn, hzn⟩ : ∃ j : Nat, zi = (j : Int) := ⟨zi.toNat, by omega⟩
                      refine Ops.to rfl ?_
                      refine Cd.seq ?_
                      refine Cd.cond_t rfl ?_
                      refine Cd.skipTo rfl ?_
                      refine Cd.seq ?_
                      refine Cd.block ?_
                      refine Cd.seq ?_
                      refine Cd.region ?_
                      refine Ops.q (q_ix (k := b) esz_26 rfl rfl (by omega)) ?_
                      refine Ops.q (q_ldR isA_3 rfl (hxe.at0 eInt_len hz rfl)) ?_
                      refine Ops.q (q_asg rfl) ?_
                      refine Ops.to rfl ?_
                      refine Cd.region ?_
                      refine Ops.q (q_mv rfl) ?_
                      refine Ops.q (q_mv rfl) ?_
                      refine Ops.q (q_ixA (k := yn) asz_135 rfl (show some (Value.int .i64 yo) = some (.int .i64 (yn : Int)) from by rw [hyn]) (by omega)) ?_
                      refine Ops.q (q_ixA (k := zn) asz_134 rfl (show some (Value.int .i64 zi) = some (.int .i64 (zn : Int)) from by rw [hzn]) (by omega)) ?_
                      refine Ops.stB [.bool true] ((tgL ((((togS ((ls.map prP).take k)) ++ (xo.take a).flatMap (fun j : Int => xi.map fun i => (i, j))) ++ (xi.take b).map (fun i => (i, yo))) ++ [((zn : Int), (yn : Int))])).flatMap eBool) sz_4 rfl rfl rfl (one rfl) .here (ble_ok (by rw [tg_len]; simp only [List.length_cons, List.length_nil]; omega)) (tg_set (by omega) (by omega)) ?_
                      refine Ops.to rfl ?_
                      refine Cd.region ?_
                      refine Ops.q (q_ar rfl rfl (a_inc (by omega))) ?_
                      refine Ops.q (q_mv rfl) ?_
                      refine Ops.rnd (b + 1) rfl (by omega) (by omega) ⟨rfl, rfl, rfl, rfl, rfl, rfl, rfl, rfl, rfl, rfl, rfl, rfl, rfl, rfl, rfl, rfl, trivial⟩ (fun _ hs => by have h1 := (((hs.pull (.there (.there .here))).pull (.there (.there .here))).pull (.there (.there .here))); rw [← hzn, ← hyn] at h1; (try dsimp only); rw [mapT _ hz, ← List.append_assoc]; exact h1) 
                    · refine Ops.q (q_cmp rfl rfl (c_nlt (by omega))) ?_
                      refine Ops.to rfl ?_
                      refine Cd.seq ?_
                      refine Cd.cond_f rfl ?_
                      refine Cd.exitTo rfl ?_
                      refine Cd.region ?_
                      refine Ops.q (q_ar rfl rfl (a_inc (by omega))) ?_
                      refine Ops.q (q_mv rfl) ?_
                      refine Ops.rnd (a + 1) rfl (by omega) (by omega) ⟨rfl, rfl, rfl, rfl, rfl, rfl, rfl, rfl, rfl, rfl, rfl, rfl, trivial⟩ (fun _ hs => by have h1 := (((hs.pull (.there (.there .here))).pull (.there (.there .here))).pull (.there (.there .here))); rw [List.take_of_length_le (show xi.length ≤ b by omega)] at h1; (try dsimp only); rw [fmT36 _ hy, ← List.append_assoc]; exact h1) 
                  · refine Ops.q (q_cmp rfl rfl (c_nlt (by omega))) ?_
                    refine Ops.to rfl ?_
                    refine Cd.seq ?_
                    refine Cd.cond_f rfl ?_
                    refine Cd.exitTo rfl ?_
                    refine Cd.region ?_
                    refine Ops.q (q_ar rfl rfl (a_inc (by omega))) ?_
                    refine Ops.q (q_mv rfl) ?_
                    refine Ops.rnd (k + 1) rfl (⟨by omega, by rw [← hIk.2]; exact (firstE_step hxq (memE_0 hse0 hso0)).symm⟩) (by omega) ⟨rfl, rfl, rfl, rfl, rfl, rfl, rfl, rfl, trivial⟩ (fun _ hs => by have h1 := (((hs.pull (.there (.there .here))).pull (.there .here)).pull (.there (.there .here))).drop; rw [List.take_of_length_le (show xo.length ≤ a by omega)] at h1; (try dsimp only); rw [togS_step hxq]; exact h1) 
                · refine Ops.q (q_cmp rfl rfl (c_ne hso0)) ?_
                  refine Ops.q (q_pickF rfl rfl) ?_
                  refine Ops.q (q_asg rfl) ?_
                  refine Ops.to rfl ?_
                  refine Cd.cond_t rfl ?_
                  refine Cd.seq ?_
                  refine Cd.region ?_
                  refine Ops.q (q_bld [.slice none 0 0, .int .i64 0, .slice none 0 0] pls_32 zc_32 rfl rfl) ?_
                  refine Ops.stB [.slice none 0 0, .int .i64 0, .slice none 0 0] [.slice none 0 0, .int .i64 0, .slice none 0 0] sz_32 rfl rfl rfl (one rfl) (.there (.there (.there (.there .here)))) rfl rfl ?_
                  refine Ops.q (q_asg rfl) ?_
                  refine Ops.to rfl ?_
                  refine Cd.rt (fn := Try.f28) [.agg [.slice none 0 0, .int .i64 0, .slice none 0 0].toArray, .int .i64 5] (by with_reducible repeat (first | exact rq_here | apply rq_then | apply rq_block)) rfl ⟨⟨_, _, rfl, fun _ hs => run_loadN isA_32 sz_32 (fun o u hu => Sat.atB (.there (.there (.there (.there .here)))) (by rw [Nat.zero_add]; exact hu) hs)⟩, rfl, trivial⟩ ?_
                  intro w' hs'
                  have h8 : memE (m : Int) (n : Int) (xi, xo) = 5 := memE_5 (by simp_all) (by simp_all)
                  have h9 : firstE (memE (m : Int) (n : Int)) (ls.map prP) = 5 := by rw [← hI.2, firstE_stop hxq (by rw [h8]; decide), h8]
                  rw [show memP (m : Int) (n : Int) (ls.map prP) = .error (5) by unfold memP; rw [if_pos hwmn, if_neg (by rw [List.length_map]; omega), h9, if_pos (by decide)]]
                  exact ⟨rfl, hs'.none⟩
              · refine Ops.q (q_cmp rfl rfl (c_ne hse0)) ?_
                refine Ops.q (q_mv rfl) ?_
                refine Ops.sk ?_
                refine Ops.sk ?_
                refine Ops.q (q_pickT rfl rfl) ?_
                refine Ops.q (q_asg rfl) ?_
                refine Ops.to rfl ?_
                refine Cd.cond_t rfl ?_
                refine Cd.seq ?_
                refine Cd.region ?_
                refine Ops.q (q_bld [.slice none 0 0, .int .i64 0, .slice none 0 0] pls_32 zc_32 rfl rfl) ?_
                refine Ops.stB [.slice none 0 0, .int .i64 0, .slice none 0 0] [.slice none 0 0, .int .i64 0, .slice none 0 0] sz_32 rfl rfl rfl (one rfl) (.there (.there (.there (.there .here)))) rfl rfl ?_
                refine Ops.q (q_asg rfl) ?_
                refine Ops.to rfl ?_
                refine Cd.rt (fn := Try.f28) [.agg [.slice none 0 0, .int .i64 0, .slice none 0 0].toArray, .int .i64 5] (by with_reducible repeat (first | exact rq_here | apply rq_then | apply rq_block)) rfl ⟨⟨_, _, rfl, fun _ hs => run_loadN isA_32 sz_32 (fun o u hu => Sat.atB (.there (.there (.there (.there .here)))) (by rw [Nat.zero_add]; exact hu) hs)⟩, rfl, trivial⟩ ?_
                intro w' hs'
                have h8 : memE (m : Int) (n : Int) (xi, xo) = 5 := memE_5 (by simp_all) (by simp_all)
                have h9 : firstE (memE (m : Int) (n : Int)) (ls.map prP) = 5 := by rw [← hI.2, firstE_stop hxq (by rw [h8]; decide), h8]
                rw [show memP (m : Int) (n : Int) (ls.map prP) = .error (5) by unfold memP; rw [if_pos hwmn, if_neg (by rw [List.length_map]; omega), h9, if_pos (by decide)]]
                exact ⟨rfl, hs'.none⟩
        · refine Ops.q (q_cmp rfl rfl (c_nlt (by omega))) ?_
          have h9 : firstE (memE (m : Int) (n : Int)) (ls.map prP) = 0 := by rw [← hI.2, firstE_end (by rw [List.length_map]; omega)]
          refine Ops.to rfl ?_
          refine Cd.seq ?_
          refine Cd.cond_f rfl ?_
          refine Cd.exitTo rfl ?_
          refine Cd.seq ?_
          refine Cd.region ?_
          refine Ops.q (q_mv rfl) ?_
          refine Ops.q (q_ar (v := ((m + 1 : Nat) : Int)) rfl rfl (a_inc (by omega))) ?_
          refine Ops.q (q_bld [.slice none 0 0, .int .i64 ((m + 1 : Nat) : Int), .slice none 0 0] pls_32 zc_32 rfl rfl) ?_
          refine Ops.q (q_bld [.slice none 0 0, .int .i64 ((m + 1 : Nat) : Int), .slice none 0 0] pls_114 zc_114 rfl rfl) ?_
          refine Ops.alc [.slice none 0 0, .int .i64 0, .slice none 0 0] zc_114 ?_
          intro b13
          refine Ops.stB [.slice none 0 0, .int .i64 ((m + 1 : Nat) : Int), .slice none 0 0] [.slice none 0 0, .int .i64 ((m + 1 : Nat) : Int), .slice none 0 0] sz_114 rfl rfl rfl (one rfl) .here rfl rfl ?_
          refine Ops.to rfl ?_
          refine Cd.seq ?_
          refine Cd.nilRow 126 4 ?_
          refine Cd.nilRow 116 8 ?_
          change Cd _ _ _ _ _ _ _ _ ([row none 0 116 8 (([] : List Prm).length) (([] : List Prm).flatMap ePrm), row none 0 126 4 (([] : List Syn).length) (([] : List Syn).flatMap eSyn), blk b13 114 [.slice none (([] : List Prm).length) 0, .int .i64 ((m + 1 : Nat) : Int), .slice none (([] : List Syn).length) 0], blk tbl 135 ((tgL (togS ((ls.map prP).take k))).flatMap eBool), blk b1 32 [.slice none 0 0, .int .i64 0, .slice none 0 0]])
          refine Cd.region ?_
          refine Ops.cp en_48 rfl (fun w hs => gate_c w) ?_
          refine Ops.cl (α := Nat × Nat) (v := fun x => .func (.func 86) #[] #[.pointer (some ⟨x.1, 0, none⟩), .pointer (some ⟨x.2, 0, none⟩)]) (B := fun x => [blk x.1 116 (ePrm (gateP 0)), blk x.2 161 [.pointer (some ⟨b13, 0, none⟩)]]) en_49 rfl (fun w hs => grow_c b13 (gateP 0) w) ?_
          rintro ⟨pb14, bb15⟩
          refine Ops.lit [.int .i64 1] el_26 zsb_3 rfl rfl ⟨by decide, by decide⟩ rfl ?_
          intro b16
          refine Ops.q (q_mv rfl) ?_
          refine Ops.cm (α := Option Addr × Nat) (v := fun p => .slice p.1 (List.replicate n (1 : Int)).length p.2) (A' := fun p => row p.1 p.2 3 1 (List.replicate n (1 : Int)).length ((List.replicate n (1 : Int)).flatMap eInt) :: [row (some ⟨b16, 0, none⟩) 1 3 1 1 [.int .i64 1], blk pb14 116 (ePrm (gateP 0)), blk bb15 161 [.pointer (some ⟨b13, 0, none⟩)], row none 0 116 8 (([] : List Prm).length) (([] : List Prm).flatMap ePrm), row none 0 126 4 (([] : List Syn).length) (([] : List Syn).flatMap eSyn), blk b13 114 [.slice none (([] : List Prm).length) 0, .int .i64 ((m + 1 : Nat) : Int), .slice none (([] : List Syn).length) 0], blk tbl 135 ((tgL (togS ((ls.map prP).take k))).flatMap eBool), blk b1 32 [.slice none 0 0, .int .i64 0, .slice none 0 0]]) en_52 rfl (fun w hs => repeat_l b16 1 n _ w _ (by omega) (((((((((hs.pull (.there (.there (.there (.there (.there (.there (.there .here)))))))).pull (.there (.there (.there (.there (.there (.there (.there .here)))))))).pull (.there (.there (.there (.there (.there (.there (.there .here)))))))).pull (.there (.there (.there (.there (.there (.there (.there .here)))))))).pull (.there (.there (.there (.there (.there (.there (.there .here)))))))).pull (.there (.there (.there (.there (.there (.there (.there .here)))))))).pull (.there (.there (.there (.there (.there (.there (.there .here)))))))).pull (.there (.there (.there (.there (.there (.there (.there .here)))))))))) ?_
          rintro ⟨a17, c18⟩
          refine Ops.cv (α := Option Addr × Nat) (k := 86) (first := []) (caps := [.pointer (some ⟨pb14, 0, none⟩), .pointer (some ⟨bb15, 0, none⟩)]) (vs := [.slice a17 ((List.replicate n (1 : Int)).length) c18]) (v := fun _ => .tuple #[]) (A' := fun p => [blk b13 114 [.slice p.1 ((([] : List Prm) ++ (List.replicate n (1 : Int)).map (setTh (gateP 0))).length) p.2, .int .i64 ((m + 1 : Nat) : Int), .slice none (([] : List Syn).length) 0], row p.1 p.2 116 8 ((([] : List Prm) ++ (List.replicate n (1 : Int)).map (setTh (gateP 0))).length) ((([] : List Prm) ++ (List.replicate n (1 : Int)).map (setTh (gateP 0))).flatMap ePrm), row none 0 126 4 (([] : List Syn).length) (([] : List Syn).flatMap eSyn), blk pb14 116 (ePrm (gateP 0)), blk bb15 161 [.pointer (some ⟨b13, 0, none⟩)], row a17 c18 3 1 ((List.replicate n (1 : Int)).length) ((List.replicate n (1 : Int)).flatMap eInt), row (some ⟨b16, 0, none⟩) 1 3 1 1 [.int .i64 1], blk tbl 135 ((tgL (togS ((ls.map prP).take k))).flatMap eBool), blk b1 32 [.slice none 0 0, .int .i64 0, .slice none 0 0]]) en_86 rfl rfl (fun w hs => grown_c b13 _ _ _ _ ([] : List Prm) _ ([] : List Syn) pb14 bb15 _ _ (List.replicate n (1 : Int)) _ _ w _ (by simp only [List.length_append, List.length_map, List.length_take, List.length_cons, List.length_nil, List.length_replicate]; omega) ((((((((((hs.pull (.there (.there (.there (.there (.there (.there (.there (.there .here))))))))).pull (.there (.there (.there (.there (.there (.there (.there (.there .here))))))))).pull (.there (.there (.there .here)))).pull (.there (.there (.there .here)))).pull (.there (.there (.there (.there (.there .here)))))).pull (.there (.there (.there (.there (.there .here)))))).pull (.there (.there (.there (.there (.there (.there (.there .here)))))))).pull (.there (.there (.there (.there (.there (.there (.there .here)))))))).pull (.there (.there (.there (.there (.there (.there (.there (.there .here))))))))))) ?_
          rintro ⟨a19, c20⟩
          refine Ops.to rfl ?_
          refine Cd.seq ?_
          refine Cd.seq ?_
          refine Cd.region ?_
          refine Ops.q (q_mv rfl) ?_
          refine Ops.q (q_mv rfl) ?_
          refine Ops.to rfl ?_
          refine Cd.block ?_
          refine Cd.lp (σ := Nat × Option Addr × Nat) (fun s => s.1 ≤ n) (fun s => [(0, .int .i64 (m : Int)), (1, .int .i64 (n : Int)), (6, .pointer (some ⟨b1, 0, none⟩)), (8, .pointer (some ⟨tbl, 0, none⟩)), (17, .pointer (some ⟨b13, 0, none⟩)), (99, .int .i64 (n : Int)), (100, .int .i64 (s.1 : Int))]) (fun s => [blk b13 114 [.slice a19 ((([] : List Prm) ++ (List.replicate n (1 : Int)).map (setTh (gateP 0))).length) c20, .int .i64 ((m + 1 : Nat) : Int), .slice s.2.1 ((([] : List Syn) ++ memTo m (togS ((ls.map prP).take k)) s.1).length) s.2.2], row a19 c20 116 8 ((([] : List Prm) ++ (List.replicate n (1 : Int)).map (setTh (gateP 0))).length) ((([] : List Prm) ++ (List.replicate n (1 : Int)).map (setTh (gateP 0))).flatMap ePrm), row s.2.1 s.2.2 126 4 ((([] : List Syn) ++ memTo m (togS ((ls.map prP).take k)) s.1).length) ((([] : List Syn) ++ memTo m (togS ((ls.map prP).take k)) s.1).flatMap eSyn), blk tbl 135 ((tgL (togS ((ls.map prP).take k))).flatMap eBool), blk b1 32 [.slice none 0 0, .int .i64 0, .slice none 0 0]]) (fun s => n - s.1) (0, none, 0) (Nat.zero_le _) ⟨rfl, rfl, rfl, rfl, rfl, rfl, rfl, trivial⟩ (fun _ hs => by have h1 := (((((((((hs.pull (.there (.there (.there (.there (.there (.there (.there (.there .here))))))))).pull (.there (.there (.there (.there (.there (.there (.there (.there .here))))))))).pull (.there (.there (.there (.there .here))))).pull (.there (.there (.there (.there .here))))).pull (.there (.there (.there (.there .here))))).pull (.there (.there (.there (.there (.there .here)))))).drop.pull (.there (.there (.there (.there (.there .here)))))).drop.pull (.there (.there (.there (.there (.there .here)))))).drop.pull (.there (.there (.there (.there (.there .here)))))).drop; dsimp only; rw [show (([] : List Syn) ++ memTo m (togS ((ls.map prP).take k)) 0) = ([] : List Syn) from List.append_nil _]; exact h1) ?_
          rintro ⟨j, qa, qc⟩ hI
          dsimp only at hI
          change Cd _ _ _ _ _ _ _ [(0, .int .i64 (m : Int)), (1, .int .i64 (n : Int)), (6, .pointer (some ⟨b1, 0, none⟩)), (8, .pointer (some ⟨tbl, 0, none⟩)), (17, .pointer (some ⟨b13, 0, none⟩)), (99, .int .i64 (n : Int)), (100, .int .i64 (j : Int))] ([blk b13 114 [.slice a19 ((([] : List Prm) ++ (List.replicate n (1 : Int)).map (setTh (gateP 0))).length) c20, .int .i64 ((m + 1 : Nat) : Int), .slice qa ((([] : List Syn) ++ memTo m (togS ((ls.map prP).take k)) j).length) qc], row a19 c20 116 8 ((([] : List Prm) ++ (List.replicate n (1 : Int)).map (setTh (gateP 0))).length) ((([] : List Prm) ++ (List.replicate n (1 : Int)).map (setTh (gateP 0))).flatMap ePrm), row qa qc 126 4 ((([] : List Syn) ++ memTo m (togS ((ls.map prP).take k)) j).length) ((([] : List Syn) ++ memTo m (togS ((ls.map prP).take k)) j).flatMap eSyn), blk tbl 135 ((tgL (togS ((ls.map prP).take k))).flatMap eBool), blk b1 32 [.slice none 0 0, .int .i64 0, .slice none 0 0]])
          refine Cd.seq ?_
          refine Cd.region ?_
          by_cases hj0 : (j : Int) < (n : Int)
          · refine Ops.q (q_cmp rfl rfl (c_lt hj0)) ?_
            have hml := memTo_len m (togS ((ls.map prP).take k)) j
            have hjm : j * (m + 1) ≤ 64 * 65 := Nat.mul_le_mul (by omega) (by omega)
            refine Ops.to rfl ?_
            refine Cd.seq ?_
            refine Cd.cond_t rfl ?_
            refine Cd.skipTo rfl ?_
            refine Cd.seq ?_
            refine Cd.block ?_
            refine Cd.seq ?_
            refine Cd.region ?_
            refine Ops.q (q_mv rfl) ?_
            refine Ops.q (q_asg rfl) ?_
            refine Ops.to rfl ?_
            refine Cd.seq ?_
            refine Cd.region ?_
            refine Ops.q (q_mv rfl) ?_
            refine Ops.q (q_mv rfl) ?_
            refine Ops.cm (α := Option Addr × Nat) (v := fun _ => .tuple #[]) (A' := fun p => [blk b13 114 [.slice a19 ((([] : List Prm) ++ (List.replicate n (1 : Int)).map (setTh (gateP 0))).length) c20, .int .i64 ((m + 1 : Nat) : Int), .slice p.1 (((([] : List Syn) ++ memTo m (togS ((ls.map prP).take k)) j) ++ [(⟨-1 - (m : Int), (j : Int), 1, 1⟩ : Syn)]).length) p.2], row a19 c20 116 8 ((([] : List Prm) ++ (List.replicate n (1 : Int)).map (setTh (gateP 0))).length) ((([] : List Prm) ++ (List.replicate n (1 : Int)).map (setTh (gateP 0))).flatMap ePrm), row p.1 p.2 126 4 (((([] : List Syn) ++ memTo m (togS ((ls.map prP).take k)) j) ++ [(⟨-1 - (m : Int), (j : Int), 1, 1⟩ : Syn)]).length) (((([] : List Syn) ++ memTo m (togS ((ls.map prP).take k)) j) ++ [(⟨-1 - (m : Int), (j : Int), 1, 1⟩ : Syn)]).flatMap eSyn), blk tbl 135 ((tgL (togS ((ls.map prP).take k))).flatMap eBool), blk b1 32 [.slice none 0 0, .int .i64 0, .slice none 0 0]]) en_51 rfl (fun w hs => feed_c _ _ _ _ _ (([] : List Prm) ++ (List.replicate n (1 : Int)).map (setTh (gateP 0))) _ (([] : List Syn) ++ memTo m (togS ((ls.map prP).take k)) j) (m : Int) (j : Int) 1 1 _ w _ (by simp only [List.length_append, List.length_cons, List.length_nil]; omega) (by omega) ((((((hs.pull (.there (.there (.there (.there .here))))).pull (.there (.there (.there (.there .here))))).pull (.there (.there (.there (.there .here))))).pull (.there (.there (.there (.there .here))))).pull (.there (.there (.there (.there .here))))))) ?_
            rintro ⟨a21, c22⟩
            refine Ops.to rfl ?_
            refine Cd.seq ?_
            refine Cd.region ?_
            refine Ops.q (q_mv rfl) ?_
            refine Ops.q (q_ixA (k := j) asz_135 rfl rfl (by omega)) ?_
            refine Ops.q (q_mv rfl) ?_
            refine Ops.q (q_cutA (k := m) asz_134 rfl rfl (by omega)) ?_
            refine Ops.q (q_len esz_23 rfl) ?_
            refine Ops.q (q_mv rfl) ?_
            refine Ops.to rfl ?_
            refine Cd.block ?_
            refine Cd.lp (σ := Nat × Option Addr × Nat) (fun s => s.1 ≤ m) (fun s => [(0, .int .i64 (m : Int)), (1, .int .i64 (n : Int)), (6, .pointer (some ⟨b1, 0, none⟩)), (8, .pointer (some ⟨tbl, 0, none⟩)), (17, .pointer (some ⟨b13, 0, none⟩)), (99, .int .i64 (n : Int)), (100, .int .i64 (j : Int)), (18, .int .i64 (j : Int)), (109, .slice (some ⟨tbl, 0 + j * 64, none⟩) m 64), (110, .int .i64 (m : Int)), (111, .int .i64 (s.1 : Int))]) (fun s => [blk b13 114 [.slice a19 ((([] : List Prm) ++ (List.replicate n (1 : Int)).map (setTh (gateP 0))).length) c20, .int .i64 ((m + 1 : Nat) : Int), .slice s.2.1 ((((([] : List Syn) ++ memTo m (togS ((ls.map prP).take k)) j) ++ [(⟨-1 - (m : Int), (j : Int), 1, 1⟩ : Syn)]) ++ memRow m (togS ((ls.map prP).take k)) j s.1).length) s.2.2], row a19 c20 116 8 ((([] : List Prm) ++ (List.replicate n (1 : Int)).map (setTh (gateP 0))).length) ((([] : List Prm) ++ (List.replicate n (1 : Int)).map (setTh (gateP 0))).flatMap ePrm), row s.2.1 s.2.2 126 4 ((((([] : List Syn) ++ memTo m (togS ((ls.map prP).take k)) j) ++ [(⟨-1 - (m : Int), (j : Int), 1, 1⟩ : Syn)]) ++ memRow m (togS ((ls.map prP).take k)) j s.1).length) ((((([] : List Syn) ++ memTo m (togS ((ls.map prP).take k)) j) ++ [(⟨-1 - (m : Int), (j : Int), 1, 1⟩ : Syn)]) ++ memRow m (togS ((ls.map prP).take k)) j s.1).flatMap eSyn), blk tbl 135 ((tgL (togS ((ls.map prP).take k))).flatMap eBool), blk b1 32 [.slice none 0 0, .int .i64 0, .slice none 0 0]]) (fun s => m - s.1) (0, a21, c22) (Nat.zero_le _) ⟨rfl, rfl, rfl, rfl, rfl, rfl, rfl, rfl, rfl, rfl, rfl, trivial⟩ (fun _ hs => by have h1 := (((((hs.pull (.there (.there (.there (.there .here))))).pull (.there (.there (.there (.there .here))))).pull (.there (.there (.there (.there .here))))).pull (.there (.there (.there (.there .here))))).pull (.there (.there (.there (.there .here))))); dsimp only; rw [show (((([] : List Syn) ++ memTo m (togS ((ls.map prP).take k)) j) ++ [(⟨-1 - (m : Int), (j : Int), 1, 1⟩ : Syn)]) ++ memRow m (togS ((ls.map prP).take k)) j 0) = ((([] : List Syn) ++ memTo m (togS ((ls.map prP).take k)) j) ++ [(⟨-1 - (m : Int), (j : Int), 1, 1⟩ : Syn)]) from List.append_nil _]; exact h1) ?_
            rintro ⟨i, ra, rc⟩ hI
            dsimp only at hI
            change Cd _ _ _ _ _ _ _ [(0, .int .i64 (m : Int)), (1, .int .i64 (n : Int)), (6, .pointer (some ⟨b1, 0, none⟩)), (8, .pointer (some ⟨tbl, 0, none⟩)), (17, .pointer (some ⟨b13, 0, none⟩)), (99, .int .i64 (n : Int)), (100, .int .i64 (j : Int)), (18, .int .i64 (j : Int)), (109, .slice (some ⟨tbl, 0 + j * 64, none⟩) m 64), (110, .int .i64 (m : Int)), (111, .int .i64 (i : Int))] ([blk b13 114 [.slice a19 ((([] : List Prm) ++ (List.replicate n (1 : Int)).map (setTh (gateP 0))).length) c20, .int .i64 ((m + 1 : Nat) : Int), .slice ra ((((([] : List Syn) ++ memTo m (togS ((ls.map prP).take k)) j) ++ [(⟨-1 - (m : Int), (j : Int), 1, 1⟩ : Syn)]) ++ memRow m (togS ((ls.map prP).take k)) j i).length) rc], row a19 c20 116 8 ((([] : List Prm) ++ (List.replicate n (1 : Int)).map (setTh (gateP 0))).length) ((([] : List Prm) ++ (List.replicate n (1 : Int)).map (setTh (gateP 0))).flatMap ePrm), row ra rc 126 4 ((((([] : List Syn) ++ memTo m (togS ((ls.map prP).take k)) j) ++ [(⟨-1 - (m : Int), (j : Int), 1, 1⟩ : Syn)]) ++ memRow m (togS ((ls.map prP).take k)) j i).length) ((((([] : List Syn) ++ memTo m (togS ((ls.map prP).take k)) j) ++ [(⟨-1 - (m : Int), (j : Int), 1, 1⟩ : Syn)]) ++ memRow m (togS ((ls.map prP).take k)) j i).flatMap eSyn), blk tbl 135 ((tgL (togS ((ls.map prP).take k))).flatMap eBool), blk b1 32 [.slice none 0 0, .int .i64 0, .slice none 0 0]])
            refine Cd.seq ?_
            refine Cd.region ?_
            by_cases hi0 : (i : Int) < (m : Int)
            · refine Ops.q (q_cmp rfl rfl (c_lt hi0)) ?_
              have hrl := memRow_len m (togS ((ls.map prP).take k)) j i
              refine Ops.to rfl ?_
              refine Cd.seq ?_
              refine Cd.cond_t rfl ?_
              refine Cd.skipTo rfl ?_
              refine Cd.seq ?_
              refine Cd.block ?_
              refine Cd.seq ?_
              refine Cd.region ?_
              refine Ops.q (q_mv rfl) ?_
              refine Ops.q (q_ix (k := i) esz_23 rfl rfl (by omega)) ?_
              by_cases hin : ((i : Int), (j : Int)) ∈ (togS ((ls.map prP).take k))
              · refine Ops.q (q_ldB (v := .bool true) isA_4 rfl (.there (.there (.there .here))) (by rw [tg_get (by omega) (by omega)]; simp [hin])) ?_
                refine Ops.q (q_asg rfl) ?_
                refine Ops.q (q_asg rfl) ?_
                refine Ops.to rfl ?_
                refine Cd.seq ?_
                refine Cd.region ?_
                refine Ops.q (q_mv rfl) ?_
                refine Ops.q (q_not rfl) ?_
                refine Ops.to rfl ?_
                refine Cd.cond_f rfl ?_
                refine Cd.skipTo rfl ?_
                refine Cd.region ?_
                refine Ops.q (q_ar rfl rfl (a_inc (by omega))) ?_
                refine Ops.q (q_mv rfl) ?_
                refine Ops.rnd ((i + 1, ra, rc)) rfl (by dsimp only; exact (by omega)) (by dsimp only; omega) ⟨rfl, rfl, rfl, rfl, rfl, rfl, rfl, rfl, rfl, rfl, rfl, trivial⟩ (fun _ hs => by have h1 := (((((hs.pull (.there (.there (.there (.there .here))))).pull (.there (.there (.there (.there .here))))).pull (.there (.there (.there (.there .here))))).pull (.there (.there (.there (.there .here))))).pull (.there (.there (.there (.there .here))))); dsimp only; rw [memRow_step, memCell, if_pos hin, List.append_nil]; exact h1) 
              · refine Ops.q (q_ldB (v := .bool false) isA_4 rfl (.there (.there (.there .here))) (by rw [tg_get (by omega) (by omega)]; simp [hin])) ?_
                refine Ops.q (q_asg rfl) ?_
                refine Ops.q (q_asg rfl) ?_
                refine Ops.to rfl ?_
                refine Cd.seq ?_
                refine Cd.region ?_
                refine Ops.q (q_mv rfl) ?_
                refine Ops.q (q_not rfl) ?_
                refine Ops.to rfl ?_
                refine Cd.cond_t rfl ?_
                refine Cd.region ?_
                refine Ops.q (q_mv rfl) ?_
                refine Ops.q (q_mv rfl) ?_
                refine Ops.cm (α := Option Addr × Nat) (v := fun _ => .tuple #[]) (A' := fun p => [blk b13 114 [.slice a19 ((([] : List Prm) ++ (List.replicate n (1 : Int)).map (setTh (gateP 0))).length) c20, .int .i64 ((m + 1 : Nat) : Int), .slice p.1 (((((([] : List Syn) ++ memTo m (togS ((ls.map prP).take k)) j) ++ [(⟨-1 - (m : Int), (j : Int), 1, 1⟩ : Syn)]) ++ memRow m (togS ((ls.map prP).take k)) j i) ++ [(⟨-1 - (i : Int), (j : Int), -1, 1⟩ : Syn)]).length) p.2], row a19 c20 116 8 ((([] : List Prm) ++ (List.replicate n (1 : Int)).map (setTh (gateP 0))).length) ((([] : List Prm) ++ (List.replicate n (1 : Int)).map (setTh (gateP 0))).flatMap ePrm), row p.1 p.2 126 4 (((((([] : List Syn) ++ memTo m (togS ((ls.map prP).take k)) j) ++ [(⟨-1 - (m : Int), (j : Int), 1, 1⟩ : Syn)]) ++ memRow m (togS ((ls.map prP).take k)) j i) ++ [(⟨-1 - (i : Int), (j : Int), -1, 1⟩ : Syn)]).length) (((((([] : List Syn) ++ memTo m (togS ((ls.map prP).take k)) j) ++ [(⟨-1 - (m : Int), (j : Int), 1, 1⟩ : Syn)]) ++ memRow m (togS ((ls.map prP).take k)) j i) ++ [(⟨-1 - (i : Int), (j : Int), -1, 1⟩ : Syn)]).flatMap eSyn), blk tbl 135 ((tgL (togS ((ls.map prP).take k))).flatMap eBool), blk b1 32 [.slice none 0 0, .int .i64 0, .slice none 0 0]]) en_51 rfl (fun w hs => feed_c _ _ _ _ _ (([] : List Prm) ++ (List.replicate n (1 : Int)).map (setTh (gateP 0))) _ (((([] : List Syn) ++ memTo m (togS ((ls.map prP).take k)) j) ++ [(⟨-1 - (m : Int), (j : Int), 1, 1⟩ : Syn)]) ++ memRow m (togS ((ls.map prP).take k)) j i) (i : Int) (j : Int) (-1) 1 _ w _ (by simp only [List.length_append, List.length_cons, List.length_nil]; omega) (by omega) ((((((hs.pull (.there (.there (.there (.there .here))))).pull (.there (.there (.there (.there .here))))).pull (.there (.there (.there (.there .here))))).pull (.there (.there (.there (.there .here))))).pull (.there (.there (.there (.there .here))))))) ?_
                rintro ⟨a23, c24⟩
                refine Ops.to rfl ?_
                refine Cd.region ?_
                refine Ops.q (q_ar rfl rfl (a_inc (by omega))) ?_
                refine Ops.q (q_mv rfl) ?_
                refine Ops.rnd ((i + 1, a23, c24)) rfl (by dsimp only; exact (by omega)) (by dsimp only; omega) ⟨rfl, rfl, rfl, rfl, rfl, rfl, rfl, rfl, rfl, rfl, rfl, trivial⟩ (fun _ hs => by have h1 := (((((hs.pull (.there (.there (.there (.there .here))))).pull (.there (.there (.there (.there .here))))).pull (.there (.there (.there (.there .here))))).pull (.there (.there (.there (.there .here))))).pull (.there (.there (.there (.there .here))))); dsimp only; rw [memRow_step, memCell, if_neg hin]; exact h1) 
            · refine Ops.q (q_cmp rfl rfl (c_nlt (by omega))) ?_
              refine Ops.to rfl ?_
              refine Cd.seq ?_
              refine Cd.cond_f rfl ?_
              refine Cd.exitTo rfl ?_
              refine Cd.region ?_
              refine Ops.q (q_ar rfl rfl (a_inc (by omega))) ?_
              refine Ops.q (q_mv rfl) ?_
              refine Ops.rnd ((j + 1, ra, rc)) rfl (by dsimp only; exact (by omega)) (by dsimp only; omega) ⟨rfl, rfl, rfl, rfl, rfl, rfl, rfl, trivial⟩ (fun _ hs => by have h1 := (((((hs.pull (.there (.there (.there (.there .here))))).pull (.there (.there (.there (.there .here))))).pull (.there (.there (.there (.there .here))))).pull (.there (.there (.there (.there .here))))).pull (.there (.there (.there (.there .here))))); have hie : i = m := (by omega); rw [hie] at h1; dsimp only; rw [memTo_step]; exact h1) 
          · refine Ops.q (q_cmp rfl rfl (c_nlt (by omega))) ?_
            refine Ops.to rfl ?_
            refine Cd.seq ?_
            refine Cd.cond_f rfl ?_
            refine Cd.exitTo rfl ?_
            refine Cd.seq ?_
            refine Cd.region ?_
            refine Ops.q (q_fa fo_114_0 rfl) ?_
            refine Ops.q (q_ldBN [.slice a19 ((([] : List Prm) ++ (List.replicate n (1 : Int)).map (setTh (gateP 0))).length) c20, .int .i64 ((m + 1 : Nat) : Int), .slice qa ((([] : List Syn) ++ memTo m (togS ((ls.map prP).take k)) j).length) qc] isA_32 sz_32 rfl .here rfl) ?_
            refine Ops.stB [.slice a19 ((([] : List Prm) ++ (List.replicate n (1 : Int)).map (setTh (gateP 0))).length) c20, .int .i64 ((m + 1 : Nat) : Int), .slice qa ((([] : List Syn) ++ memTo m (togS ((ls.map prP).take k)) j).length) qc] [.slice a19 ((([] : List Prm) ++ (List.replicate n (1 : Int)).map (setTh (gateP 0))).length) c20, .int .i64 ((m + 1 : Nat) : Int), .slice qa ((([] : List Syn) ++ memTo m (togS ((ls.map prP).take k)) j).length) qc] sz_32 rfl rfl rfl (one rfl) (.there (.there (.there (.there .here)))) rfl rfl ?_
            refine Ops.q (q_asg rfl) ?_
            refine Ops.to rfl ?_
            refine Cd.rt (fn := Try.f28) [.agg [.slice a19 ((([] : List Prm) ++ (List.replicate n (1 : Int)).map (setTh (gateP 0))).length) c20, .int .i64 ((m + 1 : Nat) : Int), .slice qa ((([] : List Syn) ++ memTo m (togS ((ls.map prP).take k)) j).length) qc].toArray, .int .i64 0] (by with_reducible repeat (first | exact rq_here | apply rq_then | apply rq_block)) rfl ⟨⟨_, _, rfl, fun _ hs => run_loadN isA_32 sz_32 (fun o u hu => Sat.atB (.there (.there (.there (.there .here)))) (by rw [Nat.zero_add]; exact hu) hs)⟩, rfl, trivial⟩ ?_
            intro w' hs'
            have hj : j = n := by omega
            rw [hj, List.take_of_length_le (show (ls.map prP).length ≤ k from (by rw [List.length_map]; omega))] at hs'
            have hP : memP (m : Int) (n : Int) (ls.map prP) = .ok ⟨(([] : List Prm) ++ (List.replicate n (1 : Int)).map (setTh (gateP 0))), ((m + 1 : Nat) : Int), (([] : List Syn) ++ memTo m (togS (ls.map prP)) n)⟩ := by unfold memP; rw [if_pos hwmn, if_neg (by rw [List.length_map]; omega), h9, if_neg (by decide)]; simp only [List.nil_append, List.map_replicate, Int.toNat_natCast]; rfl
            rw [hP]
            exact ⟨(a19, c20), (qa, qc), by rw [hj, List.take_of_length_le (show (ls.map prP).length ≤ k from (by rw [List.length_map]; omega))]; rfl, (((((hs'.pull (.there (.there .here))).pull (.there (.there .here))).pull (.there (.there .here))).drop.pull (.there (.there .here))).drop.pull (.there (.there .here))).drop⟩
    · refine Ops.cp en_57 rfl (fun w hs => dF (in_c _ _ _ w) h3) ?_
      refine Ops.q (q_not rfl) ?_
      refine Ops.q (q_pickF rfl rfl) ?_
      refine Ops.q (q_asg rfl) ?_
      refine Ops.to rfl ?_
      refine Cd.cond_t rfl ?_
      refine Cd.seq ?_
      refine Cd.region ?_
      refine Ops.q (q_bld [.slice none 0 0, .int .i64 0, .slice none 0 0] pls_32 zc_32 rfl rfl) ?_
      refine Ops.stB [.slice none 0 0, .int .i64 0, .slice none 0 0] [.slice none 0 0, .int .i64 0, .slice none 0 0] sz_32 rfl rfl rfl (one rfl) .here rfl rfl ?_
      refine Ops.q (q_asg rfl) ?_
      refine Ops.to rfl ?_
      refine Cd.rt (fn := Try.f28) [.agg [.slice none 0 0, .int .i64 0, .slice none 0 0].toArray, .int .i64 3] (by with_reducible repeat (first | exact rq_here | apply rq_then | apply rq_block)) rfl ⟨⟨_, _, rfl, fun _ hs => run_loadN isA_32 sz_32 (fun o u hu => Sat.atB .here (by rw [Nat.zero_add]; exact hu) hs)⟩, rfl, trivial⟩ ?_
      intro w' hs'
      rw [show memP mi ni (ls.map prP) = .error 3 by unfold memP; rw [if_neg (fun h => by first | exact h3 h.1 | exact h3 h.2)]]
      exact ⟨rfl, hs'.none⟩
  · refine Ops.cp en_57 rfl (fun w hs => dF (in_c _ _ _ w) h2) ?_
    refine Ops.q (q_not rfl) ?_
    refine Ops.q (q_mv rfl) ?_
    refine Ops.sk ?_
    refine Ops.sk ?_
    refine Ops.sk ?_
    refine Ops.q (q_pickT rfl rfl) ?_
    refine Ops.q (q_asg rfl) ?_
    refine Ops.to rfl ?_
    refine Cd.cond_t rfl ?_
    refine Cd.seq ?_
    refine Cd.region ?_
    refine Ops.q (q_bld [.slice none 0 0, .int .i64 0, .slice none 0 0] pls_32 zc_32 rfl rfl) ?_
    refine Ops.stB [.slice none 0 0, .int .i64 0, .slice none 0 0] [.slice none 0 0, .int .i64 0, .slice none 0 0] sz_32 rfl rfl rfl (one rfl) .here rfl rfl ?_
    refine Ops.q (q_asg rfl) ?_
    refine Ops.to rfl ?_
    refine Cd.rt (fn := Try.f28) [.agg [.slice none 0 0, .int .i64 0, .slice none 0 0].toArray, .int .i64 3] (by with_reducible repeat (first | exact rq_here | apply rq_then | apply rq_block)) rfl ⟨⟨_, _, rfl, fun _ hs => run_loadN isA_32 sz_32 (fun o u hu => Sat.atB .here (by rw [Nat.zero_add]; exact hu) hs)⟩, rfl, trivial⟩ ?_
    intro w' hs'
    rw [show memP mi ni (ls.map prP) = .error 3 by unfold memP; rw [if_neg (fun h => by first | exact h2 h.1 | exact h2 h.2)]]
    exact ⟨rfl, hs'.none⟩
end Go.Proofs.Ytilcdghliigngaa
namespace Go.Proofs.Ytilcdghliigngaa
open Go.RowKit Go.Proofs.YtilcdghliigngaaGl Go.Proofs.YtilcdghliigngaaPm
set_option linter.unusedVariables false
set_option linter.unusedSimpArgs false
section
variable (m n : Nat) (S : List (Int × Int)) (c : List Int)
variable {m n S c}
theorem sumI_nonneg {α : Type} {f : α → Int} : ∀ {xs : List α}, (∀ x ∈ xs, 0 ≤ f x) → 0 ≤ sumI f xs
  | [], _ => Int.le_refl _
  | x :: xs, h => by
    have h1 := h x (.head _)
    have h2 := sumI_nonneg (f := f) (xs := xs) (fun y hy => h y (.tail _ hy))
    simp only [sumI]; omega
theorem sumI_pos {α : Type} {f : α → Int} {x : α} : ∀ {xs : List α}, (∀ x ∈ xs, 0 ≤ f x) → x ∈ xs → 1 ≤ f x → 1 ≤ sumI f xs
  | [], _, hx, _ => by cases hx
  | y :: xs, h, hx, h1 => by
    have h2 := sumI_nonneg (f := f) (xs := xs) (fun y hy => h y (.tail _ hy))
    have h3 := h y (.head _)
    simp only [sumI]
    rcases List.mem_cons.1 hx with rfl | hx
    · omega
    · have := sumI_pos (fun y hy => h y (.tail _ hy)) hx h1; omega
end
end Go.Proofs.Ytilcdghliigngaa
namespace Go.Proofs.Ytilcdghliigngaa
open Go.RowKit Go.Proofs.YtilcdghliigngaaGl Go.Proofs.YtilcdghliigngaaPm
set_option linter.unusedVariables false
set_option linter.unusedSimpArgs false
set_option linter.unusedSectionVars false
theorem stepV_gate {h v x : Int} (hh : 1 ≤ h ∧ h ≤ 1048576) (hx : 0 ≤ x ∧ x ≤ 1048576) : stepV (gateP h) v x = (if h ≤ x then 0 else x, decide (h ≤ x)) := by
  have e : tickV (gateP h) v x = x := by
    simp only [tickV, gateP, leakP, boundP]
    have h0 : v - (v * 256 : Int).tdiv 256 = 0 := by rw [Int.mul_tdiv_cancel v (by decide)]; omega
    simp only [show ¬ ((2 : Int) = 0) by decide, show ¬ ((2 : Int) = 1) by decide, if_false, h0]
    omega
  unfold stepV
  rw [e]
  by_cases c : h ≤ x
  · rw [if_neg (show ¬ x < (gateP h).th by show ¬ x < h; omega), if_neg (show ¬ (gateP h).rk = 1 by show ¬ (0 : Int) = 1; decide)]
    simp [c]; rfl
  · rw [if_pos (show x < (gateP h).th by show x < h; omega)]
    simp [c]
theorem sumI_le {α : Type} {f : α → Int} : ∀ {xs : List α}, (∀ x ∈ xs, f x ≤ 1) → sumI f xs ≤ (xs.length : Int)
  | [], _ => Int.le_refl _
  | x :: xs, h => by
    have h1 := h x (.head _)
    have h2 := sumI_le (f := f) (xs := xs) (fun y hy => h y (.tail _ hy))
    simp only [sumI, List.length_cons]; omega
theorem inX_one {ss : List Syn} {F : Nat → Nat → Bool} {idl : Nat → List Int} {k d : Nat} (hw : ∀ s ∈ ss, s.dst = (d : Int) → s.wt = 1) :
    0 ≤ inX ss F idl k d ∧ inX ss F idl k d ≤ (ss.length : Int) ∧ (1 ≤ inX ss F idl k d ↔ ∃ s ∈ ss, s.dst = (d : Int) ∧ s.dl ≤ (k : Int) ∧ srcF F idl ((k : Int) - s.dl).toNat s.src = true) := by
  have h01 : ∀ s ∈ ss, (0 : Int) ≤ (if s.dst = (d : Int) ∧ s.dl ≤ (k : Int) ∧ srcF F idl ((k : Int) - s.dl).toNat s.src = true then s.wt else 0) ∧ (if s.dst = (d : Int) ∧ s.dl ≤ (k : Int) ∧ srcF F idl ((k : Int) - s.dl).toNat s.src = true then s.wt else 0) ≤ 1 := fun s hs => by
    split
    · rename_i h; have := hw s hs h.1; omega
    · omega
  refine ⟨sumI_nonneg (fun s hs => (h01 s hs).1), sumI_le (fun s hs => (h01 s hs).2), ⟨fun h => ?_, fun ⟨s, hs, hc⟩ => ?_⟩⟩
  · refine Decidable.byContradiction fun hn => ?_
    have : inX ss F idl k d = 0 := sumI_zero (fun s hs => if_neg (fun hc => hn ⟨s, hs, hc⟩))
    omega
  · exact sumI_pos (fun s hs => (h01 s hs).1) hs (by rw [if_pos hc, hw s hs hc.1]; exact Int.le_refl _)
theorem sumI_at {f : Nat → Int} {d m : Nat} (hd : d < m) (h : ∀ j, j < m → j ≠ d → f j = 0) : sumI f (List.range m) = f d := by
  have e : sumI f (List.range m) = sumI (fun j => if j = d then f d else 0) (List.range m) := sumI_congr (fun j hj => by
    by_cases c : j = d
    · rw [if_pos c, c]
    · rw [if_neg c, h j (List.mem_range.1 hj) c])
  rw [e, sumI_range_one (d := d) (fun j hj => if_neg hj), if_pos hd, if_pos rfl]
theorem kq_inj {k q c q0 c0 : Nat} (hc : c < k) (hc0 : c0 < k) (e : k * q + c = k * q0 + c0) : q = q0 ∧ c = c0 := by
  have h1 : (k * q + c) / k = q := by rw [Nat.mul_add_div (by omega), Nat.div_eq_of_lt hc]; omega
  have h2 : (k * q0 + c0) / k = q0 := by rw [Nat.mul_add_div (by omega), Nat.div_eq_of_lt hc0]; omega
  have : q = q0 := by rw [← h1, ← h2, e]
  subst this
  exact ⟨rfl, by omega⟩
theorem kq_lt {s k q c : Nat} (hq : q < s) (hc : c < k) : k * q + c < s * k := by
  have : k * (q + 1) ≤ k * s := Nat.mul_le_mul_left k hq
  rw [Nat.mul_succ, Nat.mul_comm k s] at this; omega
theorem filt_none {N : Nat} {p : Nat → Bool} (h : ∀ d, d < N → ¬ p d = true) : (List.range N).filter p = [] := List.filter_eq_nil_iff.2 (fun d hd => h d (List.mem_range.1 hd))
theorem filt_one {a : Nat} {p : Nat → Bool} : ∀ {N : Nat}, a < N → (∀ d, d < N → (p d = true ↔ d = a)) → (List.range N).filter p = [a]
  | 0, h, _ => by omega
  | N + 1, h, hp => by
    rw [List.range_succ, List.filter_append]
    by_cases e : a = N
    · subst e
      rw [filt_none (fun d hd hc => by have := (hp d (by omega)).1 hc; omega)]
      simp [(hp a (by omega)).2 rfl]
    · rw [filt_one (N := N) (by omega) (fun d hd => hp d (by omega))]
      have : ¬ p N = true := fun hc => e ((hp N (by omega)).1 hc).symm
      simp [this]
def wantA (nx : List (List Int)) (st : Int) (ws : List Int) : Nat → Int
  | 0 => st
  | i + 1 => (nx.getD (wantA nx st ws i).toNat []).getD (ws.getD i 0).toNat 0
structure AutOK (nx : List (List Int)) (st : Int) (acc : List Bool) (ws : List Int) (k : Nat) : Prop where
  hs : 1 ≤ nx.length ∧ nx.length ≤ 32
  hk : 1 ≤ k ∧ k ≤ 16
  row : ∀ r ∈ nx, r.length = k
  val : ∀ r ∈ nx, ∀ x ∈ r, 0 ≤ x ∧ x < (nx.length : Int)
  st : 0 ≤ st ∧ st < (nx.length : Int)
  acc : acc.length = nx.length
  ws : ∀ x ∈ ws, 0 ≤ x ∧ x < (k : Int)
section
variable {nx : List (List Int)} {st : Int} {acc : List Bool} {ws : List Int} {k : Nat}
def autF (nx : List (List Int)) (st : Int) (acc : List Bool) (ws : List Int) (k t d : Nat) : Bool :=
  if d < nx.length then decide (t % 3 = 1 ∧ t / 3 ≤ ws.length ∧ wantA nx st ws (t / 3) = (d : Int))
  else if d < nx.length + nx.length * k then decide (t % 3 = 2 ∧ t / 3 < ws.length ∧ d = nx.length + (k * (wantA nx st ws (t / 3)).toNat + (ws.getD (t / 3) 0).toNat))
  else decide (t % 3 = 2 ∧ t / 3 ≤ ws.length ∧ acc.getD (wantA nx st ws (t / 3)).toNat false = true)
def idlA (ws : List Int) (k t : Nat) : List Int := (if t % 3 = 0 ∧ t / 3 < ws.length then [ws.getD (t / 3) 0] else []) ++ (if t = 0 then [(k : Int)] else [])
def autSs (nx : List (List Int)) (st : Int) (acc : List Bool) (k : Nat) : List Syn := ([⟨-1 - (k : Int), st, 1, 1⟩] ++ rowsTo nx.length k nx nx.length) ++ accTo nx.length k acc acc.length
def autN (nx : List (List Int)) (st : Int) (acc : List Bool) (k : Nat) : NetP := ⟨mNs nx.length k (nx.length + nx.length * k + 1), ((k + 1 : Nat) : Int), autSs nx st acc k⟩
namespace AutOK
variable (h : AutOK nx st acc ws k)
include h
theorem head : (nx.headD []).length = k := by
  cases nx with
  | nil => have := h.hs; simp at this
  | cons r nx => exact h.row r (.head _)
theorem machineN_eq : machineN nx st acc = autN nx st acc k := by
  unfold machineN autN autSs
  rw [h.head, mNs_end]
theorem rowAt {q : Nat} (hq : q < nx.length) : nx.getD q [] ∈ nx := by
  obtain ⟨r, hr⟩ : ∃ r, nx[q]? = some r := ⟨_, List.getElem?_eq_getElem hq⟩
  rw [getD_at hr]; exact List.mem_iff_getElem?.2 ⟨q, hr⟩
theorem rlen (q : Nat) : (nx.getD q []).length ≤ k ∧ (0 < (nx.getD q []).length → q < nx.length) := by
  by_cases hq : q < nx.length
  · exact ⟨Nat.le_of_eq (h.row _ (h.rowAt hq)), fun _ => hq⟩
  · have : nx.getD q [] = [] := by simp [List.getD, List.getElem?_eq_none (show nx.length ≤ q by omega)]
    rw [this]; exact ⟨Nat.zero_le _, fun h => by cases h⟩
theorem rval {q c : Nat} (hq : q < nx.length) (hc : c < k) : 0 ≤ (nx.getD q []).getD c 0 ∧ (nx.getD q []).getD c 0 < (nx.length : Int) := by
  have hm := h.rowAt hq
  have hl := h.row _ hm
  obtain ⟨x, hx⟩ : ∃ x, (nx.getD q [])[c]? = some x := ⟨_, List.getElem?_eq_getElem (by omega)⟩
  rw [getD_at hx]
  exact h.val _ hm x (List.mem_iff_getElem?.2 ⟨c, hx⟩)
theorem wsv (i : Nat) : 0 ≤ ws.getD i 0 ∧ ws.getD i 0 < (k : Int) := by
  by_cases hi : i < ws.length
  · obtain ⟨x, hx⟩ : ∃ x, ws[i]? = some x := ⟨_, List.getElem?_eq_getElem hi⟩
    rw [getD_at hx]; exact h.ws x (List.mem_iff_getElem?.2 ⟨i, hx⟩)
  · have : ws.getD i 0 = 0 := by simp [List.getD, List.getElem?_eq_none (show ws.length ≤ i by omega)]
    rw [this]; have := h.hk; omega
theorem want (i : Nat) : 0 ≤ wantA nx st ws i ∧ wantA nx st ws i < (nx.length : Int) := by
  induction i with
  | zero => exact h.st
  | succ i ih =>
    have := h.wsv i
    exact h.rval (by omega) (by omega)
theorem start_idl {t : Nat} : (k : Int) ∈ idlA ws k t ↔ t = 0 := by
  unfold idlA
  rw [List.mem_append]
  constructor
  · rintro (h1 | h1)
    · split at h1
      · have := List.mem_singleton.1 h1
        have := h.wsv (t / 3); omega
      · cases h1
    · split at h1
      · assumption
      · cases h1
  · intro h1; right; rw [if_pos h1]; exact List.mem_singleton.2 rfl
theorem sym_idl {t c : Nat} (hc : c < k) : (c : Int) ∈ idlA ws k t ↔ t % 3 = 0 ∧ t / 3 < ws.length ∧ (ws.getD (t / 3) 0).toNat = c := by
  have := h.wsv (t / 3)
  unfold idlA
  rw [List.mem_append]
  constructor
  · rintro (h1 | h1)
    · split at h1
      · rename_i h2
        have := List.mem_singleton.1 h1
        exact ⟨h2.1, h2.2, by omega⟩
      · cases h1
    · split at h1
      · have := List.mem_singleton.1 h1; omega
      · cases h1
  · rintro ⟨h1, h2, h3⟩; left; rw [if_pos ⟨h1, h2⟩]; exact List.mem_singleton.2 (by omega)
omit h in
theorem rows_mem {s k i : Nat} {nx : List (List Int)} {y : Syn} : y ∈ rowsTo s k nx i ↔ ∃ q c, q < i ∧ c < (nx.getD q []).length ∧ y ∈ cellS s k q c ((nx.getD q []).getD c 0) := by
  unfold rowsTo cellsTo
  constructor
  · intro hy
    obtain ⟨q, hq, h2⟩ := List.mem_flatMap.1 hy
    obtain ⟨c, hc, h3⟩ := List.mem_flatMap.1 h2
    exact ⟨q, c, List.mem_range.1 hq, List.mem_range.1 hc, h3⟩
  · rintro ⟨q, c, hq, hc, h3⟩
    exact List.mem_flatMap.2 ⟨q, List.mem_range.2 hq, List.mem_flatMap.2 ⟨c, List.mem_range.2 hc, h3⟩⟩
omit h in
theorem acc_mem {s k i : Nat} {y : Syn} : y ∈ accTo s k acc i ↔ ∃ q, q < i ∧ acc.getD q false = true ∧ y = ⟨(q : Int), ((s + s * k : Nat) : Int), 1, 1⟩ := by
  unfold accTo
  constructor
  · intro hy
    obtain ⟨q, hq, h2⟩ := List.mem_flatMap.1 hy
    unfold accS at h2
    split at h2
    · exact ⟨q, List.mem_range.1 hq, by assumption, List.mem_singleton.1 h2⟩
    · cases h2
  · rintro ⟨q, hq, hc, rfl⟩
    refine List.mem_flatMap.2 ⟨q, List.mem_range.2 hq, ?_⟩
    unfold accS; rw [if_pos hc]; exact List.mem_singleton.2 rfl
omit h in
theorem ss_mem {y : Syn} : y ∈ autSs nx st acc k ↔ y = ⟨-1 - (k : Int), st, 1, 1⟩ ∨ (∃ q c, q < nx.length ∧ c < (nx.getD q []).length ∧ (y = ⟨(q : Int), ((nx.length + k * q + c : Nat) : Int), 1, 1⟩ ∨ y = ⟨-1 - (c : Int), ((nx.length + k * q + c : Nat) : Int), 1, 2⟩ ∨ y = ⟨((nx.length + k * q + c : Nat) : Int), (nx.getD q []).getD c 0, 1, 2⟩)) ∨ ∃ q, q < acc.length ∧ acc.getD q false = true ∧ y = ⟨(q : Int), ((nx.length + nx.length * k : Nat) : Int), 1, 1⟩ := by
  unfold autSs
  rw [List.mem_append, List.mem_append, List.mem_singleton, rows_mem, acc_mem, or_assoc]
  simp only [cellS, List.mem_cons, List.not_mem_nil, or_false]
theorem wt1 {y : Syn} (hy : y ∈ autSs nx st acc k) : y.wt = 1 := by
  rcases ss_mem.1 hy with rfl | ⟨q, c, _, _, rfl | rfl | rfl⟩ | ⟨q, _, _, rfl⟩ <;> rfl
theorem ss_len : (autSs nx st acc k).length ≤ 1600 := by
  unfold autSs
  have h1 := h.hs; have h2 := h.hk
  have h3 : nx.length * (k * 3) ≤ 32 * (16 * 3) := Nat.mul_le_mul h1.2 (Nat.mul_le_mul_right 3 h2.2)
  have h4 : (accTo nx.length k acc acc.length).length ≤ acc.length := by
    unfold accTo
    rw [List.length_flatMap]
    have : ∀ n : Nat, ((List.range n).map (fun q => (accS nx.length k acc q).length)).sum ≤ n := fun n => by
      induction n with
      | zero => simp
      | succ n ih =>
        rw [List.range_succ, List.map_append, List.sum_append]
        have : (accS nx.length k acc n).length ≤ 1 := by unfold accS; split <;> simp
        simp only [List.map_cons, List.map_nil, List.sum_cons, List.sum_nil]; omega
    exact this _
  have h5 := h.acc
  rw [List.length_append, List.length_append, rowsTo_len h.row (Nat.le_refl _)]
  simp only [List.length_cons, List.length_nil]
  omega
omit h in
theorem src_in (F : Nat → Nat → Bool) (idl : Nat → List Int) (t c : Nat) : srcF F idl t (-1 - (c : Int)) = decide ((c : Int) ∈ idl t) := by
  unfold srcF
  rw [if_neg (by omega), show -1 - (-1 - (c : Int)) = (c : Int) by omega]
omit h in
theorem src_of (F : Nat → Nat → Bool) (idl : Nat → List Int) (t d : Nat) : srcF F idl t (d : Int) = F t d := by
  unfold srcF
  rw [if_pos (by omega), Int.toNat_natCast]
theorem at_state {t d : Nat} (hd : d < nx.length) : 1 ≤ inX (autSs nx st acc k) (autF nx st acc ws k) (idlA ws k) t d ↔ autF nx st acc ws k t d = true := by
  rw [(inX_one (fun s hs _ => h.wt1 hs)).2.2]
  have eF : autF nx st acc ws k t d = decide (t % 3 = 1 ∧ t / 3 ≤ ws.length ∧ wantA nx st ws (t / 3) = (d : Int)) := by unfold autF; rw [if_pos hd]
  rw [eF, decide_eq_true_eq]
  have hst := h.st
  constructor
  · rintro ⟨y, hy, h1, h2, h3⟩
    rcases ss_mem.1 hy with rfl | ⟨q, c, hq, hc, rfl | rfl | rfl⟩ | ⟨q, _, _, rfl⟩
    · dsimp only at h1 h2 h3
      rw [src_in, decide_eq_true_eq, h.start_idl] at h3
      have e : t = 1 := by omega
      subst e
      exact ⟨rfl, Nat.zero_le _, h1⟩
    · dsimp only at h1; omega
    · dsimp only at h1; omega
    · dsimp only at h1 h2 h3
      have hck : c < k := Nat.lt_of_lt_of_le hc (h.rlen q).1
      have hlt := kq_lt hq hck
      rw [src_of] at h3
      unfold autF at h3
      rw [if_neg (by omega), if_pos (by omega), decide_eq_true_eq] at h3
      have e2 : ((t : Int) - 2).toNat = t - 2 := by omega
      rw [e2] at h3
      obtain ⟨g1, g2, g3⟩ := h3
      have hw := h.wsv ((t - 2) / 3)
      obtain ⟨e3, e4⟩ := kq_inj hck (by omega) (show k * q + c = k * (wantA nx st ws ((t - 2) / 3)).toNat + (ws.getD ((t - 2) / 3) 0).toNat by omega)
      have e5 : t / 3 = (t - 2) / 3 + 1 := by omega
      refine ⟨by omega, by omega, ?_⟩
      rw [e5, wantA, ← e3, ← e4]; exact h1
    · dsimp only at h1; omega
  · rintro ⟨h1, h2, h3⟩
    by_cases h0 : t / 3 = 0
    · have e : t = 1 := by omega
      subst e
      refine ⟨_, ss_mem.2 (.inl rfl), h3, Int.le_refl _, ?_⟩
      dsimp only
      rw [src_in, decide_eq_true_eq, h.start_idl]; rfl
    · obtain ⟨i, hi⟩ : ∃ i, t / 3 = i + 1 := ⟨t / 3 - 1, by omega⟩
      have hw := h.want i; have hv := h.wsv i
      rw [hi, wantA] at h3
      have hq : (wantA nx st ws i).toNat < nx.length := by omega
      have hl := h.row _ (h.rowAt hq)
      have hlt := kq_lt (c := (ws.getD i 0).toNat) (k := k) hq (by omega)
      refine ⟨_, ss_mem.2 (.inr (.inl ⟨(wantA nx st ws i).toNat, (ws.getD i 0).toNat, hq, by omega, .inr (.inr rfl)⟩)), h3, by dsimp only; omega, ?_⟩
      dsimp only
      rw [src_of]
      unfold autF
      rw [if_neg (by omega), if_pos (by omega), decide_eq_true_eq]
      have e2 : ((t : Int) - 2).toNat = t - 2 := by omega
      have e3 : (t - 2) / 3 = i := by omega
      rw [e2, e3]
      exact ⟨by omega, by omega, by omega⟩
theorem at_trans {t q c : Nat} (hq : q < nx.length) (hc : c < k) : inX (autSs nx st acc k) (autF nx st acc ws k) (idlA ws k) t (nx.length + k * q + c) = (if 1 ≤ t ∧ autF nx st acc ws k (t - 1) q = true then 1 else 0) + (if 2 ≤ t ∧ (c : Int) ∈ idlA ws k (t - 2) then 1 else 0) := by
  have hst := h.st
  have hlt := kq_lt hq hc
  unfold inX autSs
  rw [sumI_app, sumI_app]
  have eA : ∀ f : Syn → Int, (∀ y ∈ accTo nx.length k acc acc.length, f y = 0) → sumI f (accTo nx.length k acc acc.length) = 0 := fun f hf => sumI_zero hf
  rw [eA _ (fun y hy => by
    obtain ⟨q', _, _, rfl⟩ := acc_mem.1 hy
    exact if_neg (fun e => by have := e.1; dsimp only at this; omega))]
  have eS : ∀ f : Syn → Int, f ⟨-1 - (k : Int), st, 1, 1⟩ = 0 → sumI f [⟨-1 - (k : Int), st, 1, 1⟩] = 0 := fun f hf => by simp only [sumI, hf]; rfl
  rw [eS _ (if_neg (fun e => by have := e.1; dsimp only at this; omega))]
  unfold rowsTo
  have hne : ∀ q' c', q' < nx.length → c' < k → (q' ≠ q ∨ c' ≠ c) → ∀ y ∈ cellS nx.length k q' c' ((nx.getD q' []).getD c' 0), ¬ y.dst = ((nx.length + k * q + c : Nat) : Int) := fun q' c' h1 h2 h3 y hy e => by
    have hv := h.rval h1 h2
    have : ¬ (k * q' + c' = k * q + c) := fun e' => by have := kq_inj h2 hc e'; omega
    simp only [cellS, List.mem_cons, List.not_mem_nil, or_false] at hy
    rcases hy with rfl | rfl | rfl <;> (dsimp only at e; omega)
  rw [sumI_fm, sumI_at hq]
  · unfold cellsTo
    rw [sumI_fm, sumI_at (d := c) (by rw [h.row _ (h.rowAt hq)]; exact hc)]
    · simp only [cellS, sumI]
      have hv := h.rval hq hc
      rw [if_neg (show ¬ ((nx.getD q []).getD c 0 = ((nx.length + k * q + c : Nat) : Int) ∧ _) from fun e => by have := e.1; omega)]
      simp only [true_and]
      rw [src_in]
      have e1 : ((t : Int) - 1).toNat = t - 1 := by omega
      have e2 : ((t : Int) - 2).toNat = t - 2 := by omega
      rw [src_of, e1, e2]
      have a1 : ((1 : Int) ≤ (t : Int)) ↔ 1 ≤ t := by omega
      have a2 : ((2 : Int) ≤ (t : Int)) ↔ 2 ≤ t := by omega
      simp only [a1, a2, decide_eq_true_eq]
      omega
    · intro c' hc' hn
      exact sumI_zero (fun y hy => if_neg (fun e => hne q c' hq (Nat.lt_of_lt_of_le hc' (h.rlen q).1) (.inr hn) y hy e.1))
  · intro q' hq' hn
    unfold cellsTo
    rw [sumI_fm]
    exact sumI_zero (fun c' hc' => sumI_zero (fun y hy => if_neg (fun e => hne q' c' hq' (Nat.lt_of_lt_of_le (List.mem_range.1 hc') (h.rlen q').1) (.inl hn) y hy e.1)))
theorem at_trans2 {t q c : Nat} (hq : q < nx.length) (hc : c < k) : 2 ≤ inX (autSs nx st acc k) (autF nx st acc ws k) (idlA ws k) t (nx.length + k * q + c) ↔ autF nx st acc ws k t (nx.length + k * q + c) = true := by
  have hlt := kq_lt hq hc
  have eF : autF nx st acc ws k t (nx.length + k * q + c) = decide (t % 3 = 2 ∧ t / 3 < ws.length ∧ nx.length + k * q + c = nx.length + (k * (wantA nx st ws (t / 3)).toNat + (ws.getD (t / 3) 0).toNat)) := by unfold autF; rw [if_neg (by omega), if_pos (by omega)]
  have eQ : autF nx st acc ws k (t - 1) q = decide ((t - 1) % 3 = 1 ∧ (t - 1) / 3 ≤ ws.length ∧ wantA nx st ws ((t - 1) / 3) = (q : Int)) := by unfold autF; rw [if_pos hq]
  rw [h.at_trans hq hc, eF, decide_eq_true_eq]
  simp only [eQ, decide_eq_true_eq, h.sym_idl hc]
  have hw := h.want (t / 3); have hv := h.wsv (t / 3)
  constructor
  · intro h2
    by_cases c1 : 1 ≤ t ∧ (t - 1) % 3 = 1 ∧ (t - 1) / 3 ≤ ws.length ∧ wantA nx st ws ((t - 1) / 3) = (q : Int)
    · by_cases c2 : 2 ≤ t ∧ (t - 2) % 3 = 0 ∧ (t - 2) / 3 < ws.length ∧ (ws.getD ((t - 2) / 3) 0).toNat = c
      · obtain ⟨b1, b2, b3, b4⟩ := c1
        obtain ⟨d1, d2, d3, d4⟩ := c2
        have e1 : (t - 1) / 3 = t / 3 := by omega
        have e2 : (t - 2) / 3 = t / 3 := by omega
        rw [e1] at b4; rw [e2] at d3 d4
        refine ⟨by omega, d3, ?_⟩
        rw [b4, d4, Int.toNat_natCast]; omega
      · rw [if_neg c2] at h2; split at h2 <;> omega
    · rw [if_neg c1] at h2; split at h2 <;> omega
  · rintro ⟨h1, h2, h3⟩
    obtain ⟨e3, e4⟩ := kq_inj hc (by omega) (show k * q + c = k * (wantA nx st ws (t / 3)).toNat + (ws.getD (t / 3) 0).toNat by omega)
    have e1 : (t - 1) / 3 = t / 3 := by omega
    have e2 : (t - 2) / 3 = t / 3 := by omega
    rw [e1, e2, if_pos ⟨by omega, by omega, by omega, by omega⟩, if_pos ⟨by omega, by omega, h2, e4.symm⟩]; decide
theorem at_acc {t : Nat} : 1 ≤ inX (autSs nx st acc k) (autF nx st acc ws k) (idlA ws k) t (nx.length + nx.length * k) ↔ autF nx st acc ws k t (nx.length + nx.length * k) = true := by
  rw [(inX_one (fun s hs _ => h.wt1 hs)).2.2]
  have eF : autF nx st acc ws k t (nx.length + nx.length * k) = decide (t % 3 = 2 ∧ t / 3 ≤ ws.length ∧ acc.getD (wantA nx st ws (t / 3)).toNat false = true) := by unfold autF; rw [if_neg (by omega), if_neg (by omega)]
  have eQ : ∀ q, q < nx.length → autF nx st acc ws k (t - 1) q = decide ((t - 1) % 3 = 1 ∧ (t - 1) / 3 ≤ ws.length ∧ wantA nx st ws ((t - 1) / 3) = (q : Int)) := fun q hq => by unfold autF; rw [if_pos hq]
  have e1 : ((t : Int) - 1).toNat = t - 1 := by omega
  rw [eF, decide_eq_true_eq]
  have hst := h.st; have ha := h.acc
  constructor
  · rintro ⟨y, hy, h1, h2, h3⟩
    rcases ss_mem.1 hy with rfl | ⟨q, c, hq, hc, rfl | rfl | rfl⟩ | ⟨q, hq, hc, rfl⟩
    · dsimp only at h1; omega
    · have := kq_lt hq (Nat.lt_of_lt_of_le hc (h.rlen q).1); dsimp only at h1; omega
    · have := kq_lt hq (Nat.lt_of_lt_of_le hc (h.rlen q).1); dsimp only at h1; omega
    · have := h.rval hq (Nat.lt_of_lt_of_le hc (h.rlen q).1); dsimp only at h1; omega
    · dsimp only at h1 h2 h3
      rw [src_of, e1, eQ q (by omega), decide_eq_true_eq] at h3
      obtain ⟨g1, g2, g3⟩ := h3
      have e2 : (t - 1) / 3 = t / 3 := by omega
      rw [e2] at g2 g3
      exact ⟨by omega, g2, by rw [g3, Int.toNat_natCast]; exact hc⟩
  · rintro ⟨h1, h2, h3⟩
    have hw := h.want (t / 3)
    refine ⟨_, ss_mem.2 (.inr (.inr ⟨(wantA nx st ws (t / 3)).toNat, by omega, h3, rfl⟩)), rfl, by dsimp only; omega, ?_⟩
    dsimp only
    have e2 : (t - 1) / 3 = t / 3 := by omega
    rw [src_of, e1, eQ _ (by omega), decide_eq_true_eq, e2]
    exact ⟨by omega, h2, by omega⟩
end AutOK
end
end Go.Proofs.Ytilcdghliigngaa
namespace Go.Proofs.Ytilcdghliigngaa
open Go.Proofs.YtilcdghliigngaaPm
set_option linter.unusedVariables false
set_option linter.unusedSimpArgs false
set_option linter.unusedSectionVars false
inductive WayE (g : List Edg) (s : Nat) : Nat → Nat → Prop
  | start : WayE g s 0 s
  | step {t u : Nat} {e : Edg} : WayE g s t u → e ∈ g → e.src = (u : Int) → WayE g s (t + e.len.toNat) e.dst.toNat
theorem nat_least {P : Nat → Prop} (h : ∃ n, P n) : ∃ n, P n ∧ ∀ m, P m → n ≤ m := by
  obtain ⟨n, hn⟩ := h
  induction n using Nat.strongRecOn with
  | ind n ih =>
    by_cases c : ∃ m, m < n ∧ P m
    · obtain ⟨m, h1, h2⟩ := c; exact ih m h1 h2
    · exact ⟨n, hn, fun m hm => Nat.le_of_not_lt fun hlt => c ⟨m, hlt, hm⟩⟩
open Classical in
noncomputable def dst (g : List Edg) (s d : Nat) : Int := if h : ∃ t, WayE g s t d then (((nat_least h).choose : Nat) : Int) else -1
theorem dst_spec (g : List Edg) (s d : Nat) : (dst g s d = -1 ∧ ∀ t, ¬ WayE g s t d) ∨ ∃ t : Nat, dst g s d = (t : Int) ∧ WayE g s t d ∧ ∀ m, WayE g s m d → t ≤ m := by
  unfold dst
  by_cases h : ∃ t, WayE g s t d
  · right
    rw [dif_pos h]
    exact ⟨_, rfl, (nat_least h).choose_spec⟩
  · left
    rw [dif_neg h]
    exact ⟨rfl, fun t ht => h ⟨t, ht⟩⟩
structure GOK (g : List Edg) (s v : Nat) : Prop where
  hv : 1 ≤ v ∧ v ≤ 40
  hs : s < v
  hl : g.length ≤ 120
  he : ∀ e ∈ g, 0 ≤ e.src ∧ e.src < (v : Int) ∧ 0 ≤ e.dst ∧ e.dst < (v : Int) ∧ 1 ≤ e.len ∧ e.len ≤ 16
section
variable {g : List Edg} {s v : Nat}
theorem dst_of {t d : Nat} (h : WayE g s t d) : 0 ≤ dst g s d ∧ dst g s d ≤ (t : Int) := by
  rcases dst_spec g s d with ⟨_, h2⟩ | ⟨t', h1, h2, h3⟩
  · exact absurd h (h2 t)
  · have := h3 t h; omega
theorem dst_reach {d : Nat} (h : 0 ≤ dst g s d) : ∃ t : Nat, dst g s d = (t : Int) ∧ WayE g s t d := by
  rcases dst_spec g s d with ⟨h1, h2⟩ | ⟨t', h1, h2, h3⟩
  · omega
  · exact ⟨t', h1, h2⟩
theorem dst_ge (d : Nat) : -1 ≤ dst g s d := by
  rcases dst_spec g s d with ⟨h1, h2⟩ | ⟨t', h1, h2, h3⟩ <;> omega
theorem dst_s : dst g s s = 0 := by have := dst_of (WayE.start (g := g) (s := s)); omega
namespace GOK
variable (h : GOK g s v)
include h
theorem p1 {e : Edg} (he : e ∈ g) (h0 : 0 ≤ dst g s e.src.toNat) : 0 ≤ dst g s e.dst.toNat ∧ dst g s e.dst.toNat ≤ dst g s e.src.toNat + e.len := by
  obtain ⟨t, h1, h2⟩ := dst_reach h0
  have hb := h.he e he
  have := dst_of (WayE.step h2 he (by omega)); omega
theorem p2 {d : Nat} (h0 : 0 ≤ dst g s d) : (d = s ∧ dst g s d = 0) ∨ ∃ e ∈ g, e.dst = (d : Int) ∧ 0 ≤ dst g s e.src.toNat ∧ dst g s e.src.toNat + e.len = dst g s d := by
  obtain ⟨t, h1, h2⟩ := dst_reach h0
  cases h2 with
  | start => exact .inl ⟨rfl, by omega⟩
  | step hr he hs =>
    rename_i t' u e
    right
    have hb := h.he e he
    have h3 := dst_of hr
    have hu : e.src.toNat = u := by omega
    refine ⟨e, he, by omega, by rw [hu]; exact h3.1, ?_⟩
    have := (h.p1 he (by rw [hu]; exact h3.1)).2
    rw [hu] at this ⊢
    omega
theorem lt {d : Nat} (h0 : 0 ≤ dst g s d) : d < v := by
  rcases h.p2 h0 with ⟨rfl, _⟩ | ⟨e, he, h1, _⟩
  · exact h.hs
  · have := h.he e he; omega
theorem pos {d : Nat} (hd : d ≠ s) (h0 : 0 ≤ dst g s d) : 1 ≤ dst g s d := by
  rcases h.p2 h0 with ⟨h1, _⟩ | ⟨e, he, h1, h2, h3⟩
  · exact absurd h1 hd
  · have := h.he e he; omega
end GOK
theorem filter_lt {p q : Nat → Bool} : ∀ {l : List Nat} {x : Nat}, (∀ y, p y = true → q y = true) → x ∈ l → q x = true → ¬ p x = true → (l.filter p).length < (l.filter q).length
  | [], x, _, hx, _, _ => by cases hx
  | y :: l, x, h, hx, h1, h2 => by
    have hle : ∀ l : List Nat, (l.filter p).length ≤ (l.filter q).length := fun l => by
      induction l with
      | nil => exact Nat.le_refl _
      | cons z l ih =>
        rw [List.filter_cons, List.filter_cons]
        by_cases c : p z = true
        · rw [if_pos c, if_pos (h z c)]; simpa using ih
        · rw [if_neg c]; split <;> (try simp only [List.length_cons]) <;> omega
    rw [List.filter_cons, List.filter_cons]
    rcases List.mem_cons.1 hx with rfl | hx
    · rw [if_neg h2, if_pos h1]; have := hle l; simp; omega
    · have ih := filter_lt (l := l) h hx h1 h2
      by_cases c : p y = true
      · rw [if_pos c, if_pos (h y c)]; simpa using ih
      · rw [if_neg c]; split <;> (try simp only [List.length_cons]) <;> omega
namespace GOK
variable (h : GOK g s v)
include h
end GOK
theorem getD_set (W : List Int) (i d : Nat) (x : Int) : (W.set i x).getD d 0 = if i = d ∧ i < W.length then x else W.getD d 0 := by
  simp only [List.getD, List.getElem?_set]
  by_cases c : i = d
  · subst c
    by_cases c2 : i < W.length
    · simp [c2]
    · simp [c2]
  · simp [c]
namespace GOK
variable (h : GOK g s v)
include h
end GOK
end
end Go.Proofs.Ytilcdghliigngaa
namespace Go.Proofs.Ytilcdghliigngaa
open Go.RowKit Go.Proofs.YtilcdghliigngaaGl Go.Proofs.YtilcdghliigngaaPm
set_option linter.unusedVariables false
set_option linter.unusedSimpArgs false
set_option linter.unusedSectionVars false
section
variable {g : List Edg} {s v : Nat}
noncomputable def spF (g : List Edg) (s t d : Nat) : Bool := decide (0 ≤ dst g s d ∧ (t : Int) = dst g s d + 1)
def idl0 (t : Nat) : List Int := if t = 0 then [0] else []
def pathSs (g : List Edg) (s v : Nat) : List Syn := ([⟨-1, (s : Int), 1, 1⟩] ++ selvesFrom 0 v) ++ g.map fun e => ⟨e.src, e.dst, 1, e.len⟩
def pathN (g : List Edg) (s v : Nat) : NetP := ⟨(List.replicate v (1 : Int)).map (setTh (onceP 0)), 1, pathSs g s v⟩
noncomputable def cE (g : List Edg) (s t d : Nat) : Int := sumI (fun e : Edg => if e.dst = (d : Int) ∧ 0 ≤ dst g s e.src.toNat ∧ (t : Int) = dst g s e.src.toNat + 1 + e.len then 1 else 0) g
noncomputable def cumE (g : List Edg) (s t d : Nat) : Int := sumI (fun e : Edg => if e.dst = (d : Int) ∧ 0 ≤ dst g s e.src.toNat ∧ dst g s e.src.toNat + 1 + e.len < (t : Int) then 1 else 0) g
noncomputable def pX (g : List Edg) (s t d : Nat) : Int := ((if t = 1 ∧ d = s then 1 else 0) + (if 1 ≤ t ∧ spF g s (t - 1) d = true then -32768 else 0)) + cE g s t d
noncomputable def pV (g : List Edg) (s : Nat) : Nat → Nat → Int
  | 0, _ => 0
  | t + 1, d => (stepV (setTh (onceP 0) 1) (pV g s t d) (pX g s t d)).1
namespace GOK
variable (h : GOK g s v)
include h
theorem cE_b (t d : Nat) : 0 ≤ cE g s t d ∧ cE g s t d ≤ 120 ∧ 0 ≤ cumE g s t d ∧ cumE g s t d ≤ 120 ∧ cumE g s (t + 1) d = cumE g s t d + cE g s t d := by
  have hl := h.hl
  refine ⟨sumI_nonneg (fun e _ => by split <;> omega), ?_, sumI_nonneg (fun e _ => by split <;> omega), ?_, ?_⟩
  · have := sumI_le (f := fun e : Edg => if e.dst = (d : Int) ∧ 0 ≤ dst g s e.src.toNat ∧ (t : Int) = dst g s e.src.toNat + 1 + e.len then (1 : Int) else 0) (xs := g) (fun e _ => by split <;> omega)
    unfold cE; omega
  · have := sumI_le (f := fun e : Edg => if e.dst = (d : Int) ∧ 0 ≤ dst g s e.src.toNat ∧ dst g s e.src.toNat + 1 + e.len < (t : Int) then (1 : Int) else 0) (xs := g) (fun e _ => by split <;> omega)
    unfold cumE; omega
  · unfold cumE cE
    rw [← sumI_add]
    refine sumI_congr (fun e _ => ?_)
    by_cases c1 : e.dst = (d : Int) ∧ 0 ≤ dst g s e.src.toNat ∧ dst g s e.src.toNat + 1 + e.len < (t : Int)
    · rw [if_pos ⟨c1.1, c1.2.1, by omega⟩, if_pos c1, if_neg (by omega)]; rfl
    · by_cases c2 : e.dst = (d : Int) ∧ 0 ≤ dst g s e.src.toNat ∧ (t : Int) = dst g s e.src.toNat + 1 + e.len
      · rw [if_pos ⟨c2.1, c2.2.1, by omega⟩, if_neg c1, if_pos c2]; rfl
      · rw [if_neg (fun c => by omega), if_neg c1, if_neg c2]; rfl
theorem cE_zero {t d : Nat} (hd : dst g s d < 0 ∨ (t : Int) < dst g s d + 1) : cE g s t d = 0 := sumI_zero (fun e he => if_neg (fun c => by
  have hb := h.he e he
  have h1 := h.p1 he c.2.1
  have h2 : e.dst.toNat = d := by omega
  rw [h2] at h1; omega))
theorem cE_one {t d : Nat} (h0 : 0 ≤ dst g s d) (ht : (t : Int) = dst g s d + 1) (hd : d ≠ s) : 1 ≤ cE g s t d := by
  rcases h.p2 h0 with ⟨h1, _⟩ | ⟨e, he, h1, h2, h3⟩
  · exact absurd h1 hd
  · exact sumI_pos (fun e _ => by split <;> omega) he (by rw [if_pos ⟨h1, h2, by omega⟩]; exact Int.le_refl _)
theorem path_inX {t d : Nat} (hd : d < v) : inX (pathSs g s v) (spF g s) idl0 t d = pX g s t d := by
  unfold inX pathSs pX
  rw [sumI_app, sumI_app, selves_sum, if_pos ⟨by omega, by omega⟩, sumI_map]
  congr 1
  · congr 1
    simp only [sumI]
    have e1 : ((t : Int) - 1).toNat = t - 1 := by omega
    have e2 : srcF (spF g s) idl0 (t - 1) (-1) = decide (t - 1 = 0) := by
      unfold srcF idl0
      rw [if_neg (by omega)]
      by_cases c : t - 1 = 0
      · rw [if_pos c]; simp [c]
      · rw [if_neg c]; simp [c]
    rw [e1, e2]
    by_cases c : t = 1 ∧ d = s
    · rw [if_pos c, if_pos ⟨by omega, by omega, by simp; omega⟩]; rfl
    · rw [if_neg c, if_neg (fun c' => by have := decide_eq_true_eq.mp c'.2.2; omega)]; rfl
  · refine sumI_congr (fun e he => ?_)
    have hb := h.he e he
    have e3 : ∀ k, srcF (spF g s) idl0 k e.src = decide (0 ≤ dst g s e.src.toNat ∧ (k : Int) = dst g s e.src.toNat + 1) := fun k => by
      unfold srcF; rw [if_pos hb.1]; rfl
    dsimp only
    rw [e3]
    by_cases c : e.dst = (d : Int) ∧ 0 ≤ dst g s e.src.toNat ∧ (t : Int) = dst g s e.src.toNat + 1 + e.len
    · rw [if_pos c, if_pos ⟨c.1, by omega, by rw [decide_eq_true_eq]; omega⟩]
    · rw [if_neg c, if_neg (fun c' => by have := decide_eq_true_eq.mp c'.2.2; omega)]
theorem pV_inv (d : Nat) (hd : d < v) (t : Nat) : ((dst g s d < 0 ∨ (t : Int) ≤ dst g s d + 2) → pV g s t d = 0) ∧ (0 ≤ dst g s d → dst g s d + 3 ≤ (t : Int) → pV g s t d ≤ -32768 + cumE g s t d ∧ -1048576 ≤ pV g s t d) := by
  have hge := dst_ge (g := g) (s := s) d
  have hs0 := dst_s (g := g) (s := s)
  induction t with
  | zero => exact ⟨fun _ => rfl, fun h0 h1 => by omega⟩
  | succ t ih =>
    obtain ⟨i1, i2⟩ := ih
    have hb' := h.cE_b t d
    have hz := h.cE_zero (t := t) (d := d)
    have hone := h.cE_one (t := t) (d := d)
    have hX : pX g s t d = ((if t = 1 ∧ d = s then 1 else 0) + (if 1 ≤ t ∧ spF g s (t - 1) d = true then -32768 else 0)) + cE g s t d := rfl
    have hsp : ∀ u, spF g s u d = true ↔ 0 ≤ dst g s d ∧ (u : Int) = dst g s d + 1 := fun u => by unfold spF; rw [decide_eq_true_eq]
    have hst : (if t = 1 ∧ d = s then (1 : Int) else 0) = if t = 1 ∧ d = s then 1 else 0 := rfl
    refine ⟨fun hc => ?_, fun h0 h1 => ?_⟩
    · show (stepV (setTh (onceP 0) 1) (pV g s t d) (pX g s t d)).1 = 0
      rw [stepV_once, i1 (by omega)]
      by_cases c1 : 0 ≤ dst g s d ∧ (t : Int) = dst g s d + 1
      · have hx : 1 ≤ pX g s t d ∧ pX g s t d ≤ 200 := by
          rw [hX, if_neg (show ¬ (1 ≤ t ∧ spF g s (t - 1) d = true) from fun c => by have := (hsp _).1 c.2; omega)]
          by_cases c2 : d = s
          · rw [if_pos ⟨by rw [c2, hs0] at c1; omega, c2⟩]; omega
          · have := hone c1.1 c1.2 c2
            rw [if_neg (fun c => c2 c.2)]; omega
        rw [if_neg (by omega)]
      · have hx : pX g s t d = 0 := by
          rw [hX, hz (by omega), if_neg (show ¬ (1 ≤ t ∧ spF g s (t - 1) d = true) from fun c => by have := (hsp _).1 c.2; omega), if_neg (show ¬ (t = 1 ∧ d = s) from fun c => c1 (by rw [c.2, hs0, c.1]; decide))]; rfl
        rw [hx, if_pos (by decide)]; rfl
    · show (stepV (setTh (onceP 0) 1) (pV g s t d) (pX g s t d)).1 ≤ _ ∧ _ ≤ (stepV (setTh (onceP 0) 1) (pV g s t d) (pX g s t d)).1
      rw [hb'.2.2.2.2, stepV_once]
      have hx1 : ¬ (t = 1 ∧ d = s) := fun c => by omega
      by_cases c1 : (t : Int) = dst g s d + 2
      · have hx : pX g s t d = -32768 + cE g s t d := by
          rw [hX, if_neg hx1, if_pos ⟨by omega, (hsp _).2 ⟨h0, by omega⟩⟩]; omega
        rw [i1 (by omega), hx, if_pos (by omega)]
        dsimp only; omega
      · have hx : pX g s t d = cE g s t d := by
          rw [hX, if_neg hx1, if_neg (show ¬ (1 ≤ t ∧ spF g s (t - 1) d = true) from fun c => by have := (hsp _).1 c.2; omega)]; omega
        have := i2 h0 (by omega)
        rw [hx, if_pos (by omega)]
        dsimp only; omega
theorem pV_fire (d : Nat) (hd : d < v) (t : Nat) : (stepV (setTh (onceP 0) 1) (pV g s t d) (pX g s t d)).2 = spF g s t d := by
    have hb := h.cE_b t d
    have hge := dst_ge (g := g) (s := s) d
    have hs0 := dst_s (g := g) (s := s)
    have hprev := h.pV_inv d hd t
    obtain ⟨i1, i2⟩ := hprev
    have hz := h.cE_zero (t := t) (d := d)
    have hone := h.cE_one (t := t) (d := d)
    have hX : pX g s t d = ((if t = 1 ∧ d = s then 1 else 0) + (if 1 ≤ t ∧ spF g s (t - 1) d = true then -32768 else 0)) + cE g s t d := rfl
    have hsp : ∀ u, spF g s u d = true ↔ 0 ≤ dst g s d ∧ (u : Int) = dst g s d + 1 := fun u => by unfold spF; rw [decide_eq_true_eq]
    have key : ∀ b : Bool, (b = true ↔ spF g s t d = true) → b = spF g s t d := fun b e => by
      cases b <;> cases hh : spF g s t d <;> simp_all
    refine key _ ?_
    rw [stepV_once, hsp]
    by_cases c1 : 0 ≤ dst g s d ∧ (t : Int) = dst g s d + 1
    · have hx : 1 ≤ pX g s t d ∧ pX g s t d ≤ 200 := by
        rw [hX, if_neg (show ¬ (1 ≤ t ∧ spF g s (t - 1) d = true) from fun c => by have := (hsp _).1 c.2; omega)]
        by_cases c2 : d = s
        · rw [if_pos ⟨by rw [c2, hs0] at c1; omega, c2⟩]; omega
        · have := hone c1.1 c1.2 c2
          rw [if_neg (fun c => c2 c.2)]; omega
      rw [i1 (by omega), if_neg (by omega)]
      exact ⟨fun _ => c1, fun _ => rfl⟩
    · refine ⟨fun hc => ?_, fun hc => absurd hc c1⟩
      exfalso
      have hno : max (-1048576) (min 1048576 (pV g s t d + max (-4194304) (min 4194304 (pX g s t d)))) < 1 := by
        by_cases c2 : dst g s d < 0 ∨ (t : Int) < dst g s d + 1
        · have hx : pX g s t d = 0 := by
            rw [hX, hz c2, if_neg (show ¬ (1 ≤ t ∧ spF g s (t - 1) d = true) from fun c => by have := (hsp _).1 c.2; omega), if_neg (show ¬ (t = 1 ∧ d = s) from fun c => by rw [c.2, hs0, c.1] at c1 c2; omega)]; rfl
          rw [hx, i1 (by omega)]; decide
        · have hx1 : ¬ (t = 1 ∧ d = s) := fun c => by rw [c.2, hs0] at c1 c2; omega
          by_cases c3 : (t : Int) = dst g s d + 2
          · have hx : pX g s t d = -32768 + cE g s t d := by
              rw [hX, if_neg hx1, if_pos ⟨by omega, (hsp _).2 ⟨by omega, by omega⟩⟩]; omega
            rw [i1 (by omega), hx]; omega
          · have hx : pX g s t d = cE g s t d := by
              rw [hX, if_neg hx1, if_neg (show ¬ (1 ≤ t ∧ spF g s (t - 1) d = true) from fun c => by have := (hsp _).1 c.2; omega)]; omega
            have := i2 (by omega) (by omega)
            rw [hx]; omega
      rw [if_pos hno] at hc
      simp at hc
theorem path_net : netCheck (pathN g s v) = 0 := by
  have h1 := h.hv; have h2 := h.hs; have h3 := h.hl
  have hl : ((List.replicate v (1 : Int)).map (setTh (onceP 0))).length = v := by simp
  have hss : (pathSs g s v).length ≤ 1 + 40 + 120 := by
    unfold pathSs; simp only [List.length_append, List.length_cons, List.length_nil, List.length_map, selves_len]; omega
  have e1 : firstE nCheck ((List.replicate v (1 : Int)).map (setTh (onceP 0))) = 0 := firstE_all (fun p hp => by
    obtain ⟨j, hj, rfl⟩ := List.mem_map.1 hp
    obtain rfl := List.eq_of_mem_replicate hj
    exact once_ok (by omega) (by omega))
  have e2 : firstE (synE ((List.replicate v (1 : Int)).map (setTh (onceP 0))).length 1) (pathSs g s v) = 0 := firstE_all (fun y hy => by
    unfold synE
    rw [if_pos]
    rw [hl]
    unfold pathSs at hy
    rcases List.mem_append.1 hy with hy | hy
    · rcases List.mem_append.1 hy with hy | hy
      · obtain rfl := List.mem_singleton.1 hy; unfold wi; dsimp only; omega
      · obtain ⟨j, _, h5, rfl⟩ := selves_mem hy; unfold wi; dsimp only; omega
    · obtain ⟨e, he, rfl⟩ := List.mem_map.1 hy
      have := h.he e he
      unfold wi; dsimp only; omega)
  unfold netCheck pathN
  dsimp only
  rw [hl] at e2 ⊢
  rw [if_neg (by omega), if_neg (by omega), if_neg (by omega), if_neg (by rw [e1]; decide)]
  exact e2
end GOK
end
end Go.Proofs.Ytilcdghliigngaa
namespace Go.Proofs.Ytilcdghliigngaa
open Go.RowKit Go.Proofs.YtilcdghliigngaaGl Go.Proofs.YtilcdghliigngaaPm
set_option linter.unusedVariables false
set_option linter.unusedSimpArgs false
set_option linter.unusedSectionVars false
section
variable {nx : List (List Int)} {st : Int} {acc : List Bool} {ws : List Int} {k : Nat}
def autV (nx : List (List Int)) (st : Int) (acc : List Bool) (ws : List Int) (k : Nat) : Nat → Nat → Int
  | 0, _ => 0
  | t + 1, d => if hN nx.length k d ≤ inX (autSs nx st acc k) (autF nx st acc ws k) (idlA ws k) t d then 0 else inX (autSs nx st acc k) (autF nx st acc ws k) (idlA ws k) t d
def blkA (nx : List (List Int)) (st : Int) (acc : List Bool) (ws : List Int) (k i : Nat) : List Evt :=
  [⟨((3 * i + 1 : Nat) : Int), wantA nx st ws i⟩] ++ ((if i < ws.length then [⟨((3 * i + 2 : Nat) : Int), ((nx.length + (k * (wantA nx st ws i).toNat + (ws.getD i 0).toNat) : Nat) : Int)⟩] else []) ++ (if acc.getD (wantA nx st ws i).toNat false = true then [⟨((3 * i + 2 : Nat) : Int), ((nx.length + nx.length * k : Nat) : Int)⟩] else []))
def outA (nx : List (List Int)) (st : Int) (acc : List Bool) (ws : List Int) (k : Nat) : List Evt := (List.range (ws.length + 1)).flatMap (blkA nx st acc ws k)
def evA (ws : List Int) (k : Nat) : List Evt := insI (evsW ws ws.length) (min 1 ws.length) ⟨0, (k : Int)⟩
namespace AutOK
variable (h : AutOK nx st acc ws k)
include h
theorem fires {t d : Nat} (hd : d < nx.length + nx.length * k + 1) : autF nx st acc ws k t d = decide (hN nx.length k d ≤ inX (autSs nx st acc k) (autF nx st acc ws k) (idlA ws k) t d) := by
  have key : ∀ {b : Bool} {p : Prop} [Decidable p], (p ↔ b = true) → b = decide p := fun {b p} _ e => by
    by_cases c : p
    · rw [e.1 c, decide_eq_true c]
    · rw [decide_eq_false c]
      cases b with
      | false => rfl
      | true => exact absurd (e.2 rfl) c
  refine key ?_
  unfold hN
  have hk := h.hk
  by_cases c1 : d < nx.length
  · rw [if_neg (by omega)]; exact h.at_state c1
  · by_cases c2 : d < nx.length + nx.length * k
    · rw [if_pos ⟨by omega, c2⟩]
      have hc : (d - nx.length) % k < k := Nat.mod_lt _ (by omega)
      have hq : (d - nx.length) / k < nx.length := (Nat.div_lt_iff_lt_mul (by omega)).2 (by omega)
      have e : d = nx.length + k * ((d - nx.length) / k) + (d - nx.length) % k := by
        have := Nat.div_add_mod (d - nx.length) k; omega
      have := h.at_trans2 (t := t) hq hc
      rw [← e] at this; exact this
    · have e : d = nx.length + nx.length * k := by omega
      rw [if_neg (by omega), e]; exact h.at_acc
theorem net : netCheck (autN nx st acc k) = 0 := by
  have h1 := h.hs; have h2 := h.hk; have h3 := h.ss_len; have h4 := h.st; have h5 := h.acc
  have hsk : nx.length * k ≤ 32 * 16 := Nat.mul_le_mul h1.2 h2.2
  have hl : (mNs nx.length k (nx.length + nx.length * k + 1)).length = nx.length + nx.length * k + 1 := mNs_len _ _ _
  have e1 : firstE nCheck (mNs nx.length k (nx.length + nx.length * k + 1)) = 0 := firstE_all (fun p hp => by
    obtain ⟨j, _, rfl⟩ := List.mem_map.1 hp
    unfold hN; split <;> decide)
  have e2 : firstE (synE (mNs nx.length k (nx.length + nx.length * k + 1)).length ((k + 1 : Nat) : Int)) (autSs nx st acc k) = 0 := firstE_all (fun s hs => by
    unfold synE
    rw [if_pos]
    rw [hl]
    rcases ss_mem.1 hs with rfl | ⟨q, c, hq, hc, rfl | rfl | rfl⟩ | ⟨q, hq, hc, rfl⟩
    · unfold wi; dsimp only; omega
    · have := kq_lt hq (Nat.lt_of_lt_of_le hc (h.rlen q).1); unfold wi; dsimp only; omega
    · have := kq_lt hq (Nat.lt_of_lt_of_le hc (h.rlen q).1); have := (h.rlen q).1; unfold wi; dsimp only; omega
    · have := kq_lt hq (Nat.lt_of_lt_of_le hc (h.rlen q).1); have := h.rval hq (Nat.lt_of_lt_of_le hc (h.rlen q).1); unfold wi; dsimp only; omega
    · unfold wi; dsimp only; omega)
  unfold netCheck autN
  dsimp only
  rw [hl] at e2 ⊢
  rw [if_neg (by omega), if_neg (by omega), if_neg (by omega), if_neg (by rw [e1]; decide)]
  exact e2
theorem idl_ok (t : Nat) : (idlA ws k t).Pairwise (· < ·) ∧ ∀ i ∈ idlA ws k t, wi i 0 (((k + 1 : Nat) : Int) - 1) := by
  have hv := h.wsv (t / 3)
  unfold idlA wi
  by_cases c1 : t % 3 = 0 ∧ t / 3 < ws.length <;> by_cases c2 : t = 0
  · rw [if_pos c1, if_pos c2]
    refine ⟨?_, fun i hi => ?_⟩
    · simp only [List.cons_append, List.nil_append, List.pairwise_cons, List.mem_singleton, List.not_mem_nil, false_implies, implies_true, List.Pairwise.nil, and_true]
      intro a ha; omega
    · simp only [List.cons_append, List.nil_append, List.mem_cons, List.not_mem_nil, or_false] at hi; omega
  · rw [if_pos c1, if_neg c2]
    exact ⟨by simp, fun i hi => by simp only [List.append_nil, List.mem_singleton] at hi; omega⟩
  · rw [if_neg c1, if_pos c2]
    exact ⟨by simp, fun i hi => by simp only [List.nil_append, List.mem_singleton] at hi; omega⟩
  · rw [if_neg c1, if_neg c2]
    exact ⟨by simp, fun i hi => by simp at hi⟩
omit h in
theorem ev_blocks : ∀ m, m + 1 ≤ ws.length → evF (idlA ws k) 0 (3 * (m + 1)) = evW ws 0 :: (⟨0, (k : Int)⟩ :: (List.range m).map (fun j => evW ws (j + 1)))
  | 0, hm => by
    simp only [evF, idlA, evW]
    rw [if_pos (by constructor <;> first | trivial | omega)]
    simp
  | m + 1, hm => by
    have e : 3 * (m + 1 + 1) = 3 * (m + 1) + 1 + 1 + 1 := by omega
    rw [e, evF_app, evF_app, evF_app, ev_blocks m (by omega), List.range_succ, List.map_append]
    have e1 : idlA ws k (0 + 3 * (m + 1)) = [ws.getD (m + 1) 0] := by
      unfold idlA
      have : (0 + 3 * (m + 1)) / 3 = m + 1 := by omega
      rw [this, if_pos ⟨by omega, by omega⟩, if_neg (by omega)]; rfl
    have e2 : idlA ws k (0 + (3 * (m + 1) + 1)) = [] := by
      unfold idlA
      rw [if_neg (fun c => by omega), if_neg (by omega)]; rfl
    have e3 : idlA ws k (0 + (3 * (m + 1) + 1 + 1)) = [] := by
      unfold idlA
      rw [if_neg (fun c => by omega), if_neg (by omega)]; rfl
    rw [e1, e2, e3]
    simp [evW]
omit h in
theorem evF_eq : evF (idlA ws k) 0 (3 * ws.length + 20) = evA ws k := by
  unfold evA
  rcases Nat.eq_zero_or_pos ws.length with h0 | h0
  · rw [h0, show 3 * 0 + 20 = 1 + 19 from rfl, evF_more (T := 1) (fun t ht => by
      unfold idlA
      rw [if_neg (by omega), if_neg (by omega)]; rfl)]
    simp [evF, idlA, h0, insI, evsW]
  · obtain ⟨m, hm⟩ : ∃ m, ws.length = m + 1 := ⟨ws.length - 1, by omega⟩
    rw [evF_more (T := 3 * ws.length) (fun t ht => by
      unfold idlA
      rw [if_neg (by omega), if_neg (by omega)]; rfl)]
    rw [hm, ev_blocks m (by omega), show min 1 (m + 1) = 1 by omega]
    unfold insI evsW
    rw [List.range_succ_eq_map]
    simp [List.map_map, Function.comp_def]
theorem runO (hs8 : nx.length ≤ 8) (hk4 : k ≤ 4) (hl : ws.length ≤ 40) : runN ⟨(autN nx st acc k).ns, (autN nx st acc k).inp, (autN nx st acc k).ss⟩ (evA ws k) (3 * ws.length + 20) = some (outF (autF nx st acc ws k) (nx.length + nx.length * k + 1) (3 * ws.length + 20)) := by
  have hln : (mNs nx.length k (nx.length + nx.length * k + 1)).length = nx.length + nx.length * k + 1 := mNs_len _ _ _
  have hsk : nx.length * k ≤ 8 * 4 := Nat.mul_le_mul hs8 hk4
  have hX : ∀ t d, 0 ≤ inX (autSs nx st acc k) (autF nx st acc ws k) (idlA ws k) t d ∧ inX (autSs nx st acc k) (autF nx st acc ws k) (idlA ws k) t d ≤ 1600 := fun t d => by
    have h1 := inX_one (ss := autSs nx st acc k) (F := autF nx st acc ws k) (idl := idlA ws k) (k := t) (d := d) (fun s hs _ => h.wt1 hs)
    have h2 := h.ss_len
    exact ⟨h1.1, by have := h1.2.1; omega⟩
  have hT : (3 * ws.length + 20) * (nx.length + nx.length * k + 1) ≤ 140 * 41 := Nat.mul_le_mul (by omega) (by omega)
  have hr := sim_run (ns := mNs nx.length k (nx.length + nx.length * k + 1)) (ip := ((k + 1 : Nat) : Int)) (ss := autSs nx st acc k) (F := autF nx st acc ws k) (idl := idlA ws k) (V := autV nx st acc ws k) (T := 3 * ws.length + 20)
    ⟨fun p hp => by
      obtain ⟨j, _, rfl⟩ := List.mem_map.1 hp
      exact ⟨by unfold hN; split <;> decide, rfl⟩,
     fun s hs => by
      rw [hln]
      have h4 := h.st; have h5 := h.acc
      rcases ss_mem.1 hs with rfl | ⟨q, c, hq, hc, rfl | rfl | rfl⟩ | ⟨q, hq, hc, rfl⟩
      · dsimp only; omega
      · have := kq_lt hq (Nat.lt_of_lt_of_le hc (h.rlen q).1); dsimp only; omega
      · have := kq_lt hq (Nat.lt_of_lt_of_le hc (h.rlen q).1); dsimp only; omega
      · have := kq_lt hq (Nat.lt_of_lt_of_le hc (h.rlen q).1); have := h.rval hq (Nat.lt_of_lt_of_le hc (h.rlen q).1); dsimp only; omega
      · dsimp only; omega,
     fun t => ⟨(h.idl_ok t).1.imp (fun h => by omega), fun i hi => by have := (h.idl_ok t).2 i hi; unfold wi at this; omega⟩⟩
    (fun d => rfl)
    (fun t d _ hd => by have := hX t d; omega)
    (fun t d p _ hp => by
      obtain ⟨hd, e⟩ := List.getElem?_eq_some_iff.1 hp
      rw [hln] at hd
      have : p = gateP (hN nx.length k d) := by rw [← e]; simp [mNs]
      subst this
      have := hX t d
      rw [stepV_gate (by unfold hN; split <;> omega) (by omega), ← h.fires hd]; rfl)
    (by rw [hln]; omega)
  rw [hln, evF_eq] at hr
  exact hr
theorem out_none {t : Nat} (ht : t % 3 = 0 ∨ ws.length < t / 3) : (List.range (nx.length + nx.length * k + 1)).filter (autF nx st acc ws k t) = [] := filt_none (fun d _ hF => by
  unfold autF at hF
  split at hF
  · have := (decide_eq_true_eq.mp hF); omega
  · split at hF
    · have := (decide_eq_true_eq.mp hF); omega
    · have := (decide_eq_true_eq.mp hF); omega)
theorem out_block {i : Nat} (hi : i ≤ ws.length) : ((List.range (nx.length + nx.length * k + 1)).filter (autF nx st acc ws k (3 * i))).map (fun d : Nat => (⟨((3 * i : Nat) : Int), (d : Int)⟩ : Evt)) ++ (((List.range (nx.length + nx.length * k + 1)).filter (autF nx st acc ws k (3 * i + 1))).map (fun d : Nat => (⟨((3 * i + 1 : Nat) : Int), (d : Int)⟩ : Evt)) ++ ((List.range (nx.length + nx.length * k + 1)).filter (autF nx st acc ws k (3 * i + 2))).map (fun d : Nat => (⟨((3 * i + 2 : Nat) : Int), (d : Int)⟩ : Evt))) = blkA nx st acc ws k i := by
  have hw := h.want i; have hv := h.wsv i
  rw [h.out_none (t := 3 * i) (.inl (by omega)), filt_one (a := (wantA nx st ws i).toNat) (by omega) (fun d hd => ?_), List.range_succ, List.filter_append]
  · unfold blkA
    have hlt := kq_lt (s := nx.length) (q := (wantA nx st ws i).toNat) (k := k) (c := (ws.getD i 0).toNat) (by omega) (by omega)
    have e1 : (List.range (nx.length + nx.length * k)).filter (autF nx st acc ws k (3 * i + 2)) = if i < ws.length then [nx.length + (k * (wantA nx st ws i).toNat + (ws.getD i 0).toNat)] else [] := by
      have e5 : (3 * i + 2) / 3 = i := by omega
      by_cases c : i < ws.length
      · rw [if_pos c]
        refine filt_one (by omega) (fun d hd => ?_)
        unfold autF
        rw [e5]
        by_cases c1 : d < nx.length
        · rw [if_pos c1, decide_eq_true_eq]; omega
        · rw [if_neg c1, if_pos hd, decide_eq_true_eq]; omega
      · rw [if_neg c]
        refine filt_none (fun d hd => ?_)
        unfold autF
        rw [e5]
        by_cases c1 : d < nx.length
        · rw [if_pos c1, decide_eq_true_eq]; omega
        · rw [if_neg c1, if_pos hd, decide_eq_true_eq]; omega
    have e2 : autF nx st acc ws k (3 * i + 2) (nx.length + nx.length * k) = acc.getD (wantA nx st ws i).toNat false := by
      unfold autF
      rw [if_neg (by omega), if_neg (by omega), show (3 * i + 2) / 3 = i by omega]
      simp [hi]
    rw [e1, List.map_append, List.map_nil, List.nil_append]
    congr 1
    · simp; omega
    · congr 1
      · split <;> rfl
      · by_cases c : acc.getD (wantA nx st ws i).toNat false = true
        · rw [if_pos c]; simp only [List.filter_cons, e2, c, if_true, List.filter_nil, List.map_cons, List.map_nil]
        · have c' : acc.getD (wantA nx st ws i).toNat false = false := by simpa using c
          rw [if_neg c, List.filter_cons, e2, c', if_neg (by decide)]; rfl
  · unfold autF
    rw [show (3 * i + 1) / 3 = i by omega]
    by_cases c1 : d < nx.length
    · rw [if_pos c1, decide_eq_true_eq]; omega
    · rw [if_neg c1]
      split <;> (rw [decide_eq_true_eq]; omega)
theorem out_blocks : ∀ m, m ≤ ws.length + 1 → outF (autF nx st acc ws k) (nx.length + nx.length * k + 1) (3 * m) = (List.range m).flatMap (blkA nx st acc ws k)
  | 0, _ => rfl
  | m + 1, hm => by
    rw [show 3 * (m + 1) = 3 * m + 1 + 1 + 1 by omega, outF_next, outF_next, outF_next, out_blocks m (by omega), List.range_succ (n := m), List.flatMap_append, List.append_assoc, List.append_assoc]
    congr 1
    rw [h.out_block (i := m) (by omega)]; simp
theorem out_more : ∀ f, outF (autF nx st acc ws k) (nx.length + nx.length * k + 1) (3 * (ws.length + 1) + f) = outA nx st acc ws k
  | 0 => h.out_blocks _ (Nat.le_refl _)
  | f + 1 => by
    rw [← Nat.add_assoc, outF_next, out_more f, h.out_none (.inr (by omega))]; simp
theorem run (hs8 : nx.length ≤ 8) (hk4 : k ≤ 4) (hl : ws.length ≤ 40) : runN ⟨(autN nx st acc k).ns, (autN nx st acc k).inp, (autN nx st acc k).ss⟩ (evA ws k) (3 * ws.length + 20) = some (outA nx st acc ws k) := by
  rw [h.runO hs8 hk4 hl, show 3 * ws.length + 20 = 3 * (ws.length + 1) + 17 by omega, h.out_more]
end AutOK
end
end Go.Proofs.Ytilcdghliigngaa
