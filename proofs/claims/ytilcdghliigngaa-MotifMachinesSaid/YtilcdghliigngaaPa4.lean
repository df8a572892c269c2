/- Part of a claim: the program logic, the contracts of the functions, their models. No condition. -/
import Derived.WalkKit
import Derived.OwnWalkIn
import Derived.TacticsInMore
import Derived.OrdersIn
import Derived.RangeFuncLeaves
import Derived.RangeFuncNested
import Derived.Maps.AppendAt
import Derived.Shelf.Abstract
import Derived.Test.YtilcdghliigngaaProg
import Derived.MapKept
import Derived.Laws.StructEq
import Derived.Laws.OwnMore
import Derived.RangeFuncRecord
import Derived.Lib.SliceRun
import Derived.Lib.AppendZeros
import Derived.Lib.AppendZerosOnto
import Derived.Lib.Overlaps
import Derived.Laws.Externs
import Derived.Test.YtilcdghliigngaaPa3
namespace Go.Proofs.Ytilcdghliigngaa
open Go.RowKit Go.Proofs.YtilcdghliigngaaGl Go.Proofs.YtilcdghliigngaaPm
set_option linter.unusedVariables false
set_option linter.unusedSimpArgs false
theorem intS_76 : intS Try.prog 76 = some 2 := by kernel_rfl
section
variable {P : Program} {w0 : World} {n : Nat} {D : List Deferred} {L : Env} {A : List Atom}
theorem q_eqF {T tz : TypeId} {x y : Operand} (vs us : List Int) {v u : Value} (hT : intS P T = some vs.length) (hx : ev L x = some v) (hy : ev L y = some u) (hv : v = .agg (ints vs).toArray) (hu : u = .agg (ints us).toArray) (hl : us.length = vs.length) (h : vs ≠ us) : Qv P w0 n D L A (.binOp .eql T x y tz) (.bool false) := by
  have := q_eqS (P := P) (w0 := w0) (n := n) (D := D) (A := A) (tz := tz) vs us hT hx hy hv hu hl
  rwa [show (vs == us) = false by simp [h]] at this
theorem q_eqT {T tz : TypeId} {x y : Operand} (vs us : List Int) {v u : Value} (hT : intS P T = some vs.length) (hx : ev L x = some v) (hy : ev L y = some u) (hv : v = .agg (ints vs).toArray) (hu : u = .agg (ints us).toArray) (hl : us.length = vs.length) (h : vs = us) : Qv P w0 n D L A (.binOp .eql T x y tz) (.bool true) := by
  have := q_eqS (P := P) (w0 := w0) (n := n) (D := D) (A := A) (tz := tz) vs us hT hx hy hv hu hl
  rwa [show (vs == us) = true by simp [h]] at this
end
theorem RoL.take {α : Type} {w : World} {a : Option Addr} {enc : α → List Value} {xs : List α} (h : RoL w a enc xs) (k : Nat) : RoL w a enc (xs.take k) := fun j u hu => by
  refine h j u ?_
  rw [← List.take_append_drop k xs, List.flatMap_append, List.getElem?_append_left (List.getElem?_eq_some_iff.1 hu).1]
  exact hu
def mrkE (ip : Int) (pre : List Mrk) (m : Mrk) : Int := if wi m.inp 0 (ip - 1) then (if wi m.off 0 15 then (if m ∈ pre then 5 else 0) else 3) else 4
def patE (ip : Int) : List Mrk → List Mrk → Int
  | _, [] => 0
  | pre, m :: r => if mrkE ip pre m ≠ 0 then mrkE ip pre m else patE ip (pre ++ [m]) r
def mrkS (m : Mrk) : Syn := ⟨-1 - m.inp, 0, 1, 16 - m.off⟩
def patP (ip : Int) (ms : List Mrk) (miss : Int) : Except Int NetP :=
  if wi ip 1 256 then
    if 64 < ms.length then .error 9
    else if ms.length = 0 then .error 2
    else if patE ip [] ms ≠ 0 then .error (patE ip [] ms)
    else if wi miss 0 ((ms.length : Int) - 1) then .ok ⟨[gateP ((ms.length : Int) - miss)], ip, ms.map mrkS⟩ else .error 3
  else .error 3
theorem patE_step {ip : Int} {ms : List Mrk} {k : Nat} {x : Mrk} (hx : ms[k]? = some x) (h : mrkE ip (ms.take k) x = 0) : patE ip (ms.take k) (ms.drop k) = patE ip (ms.take (k + 1)) (ms.drop (k + 1)) := by
  rw [drop_get hx, patE, if_neg (by simpa using h), List.take_add_one, hx]; rfl
theorem patE_stop {ip : Int} {ms : List Mrk} {k : Nat} {x : Mrk} (hx : ms[k]? = some x) (h : mrkE ip (ms.take k) x ≠ 0) : patE ip (ms.take k) (ms.drop k) = mrkE ip (ms.take k) x := by
  rw [drop_get hx, patE, if_pos h]
theorem patE_end {ip : Int} {ms : List Mrk} {k : Nat} (h : ms.length ≤ k) : patE ip (ms.take k) (ms.drop k) = 0 := by
  rw [List.drop_eq_nil_of_le h, patE]
theorem mrkE_4 {ip : Int} {pre : List Mrk} {m : Mrk} (h : ¬ wi m.inp 0 (ip - 1)) : mrkE ip pre m = 4 := by unfold mrkE; rw [if_neg h]
theorem mrkE_3 {ip : Int} {pre : List Mrk} {m : Mrk} (h : wi m.inp 0 (ip - 1)) (h2 : ¬ wi m.off 0 15) : mrkE ip pre m = 3 := by unfold mrkE; rw [if_pos h, if_neg h2]
theorem mrkE_5 {ip : Int} {pre : List Mrk} {m : Mrk} (h : wi m.inp 0 (ip - 1)) (h2 : wi m.off 0 15) (h3 : m ∈ pre) : mrkE ip pre m = 5 := by unfold mrkE; rw [if_pos h, if_pos h2, if_pos h3]
theorem mrkE_0 {ip : Int} {pre : List Mrk} {m : Mrk} (h : wi m.inp 0 (ip - 1)) (h2 : wi m.off 0 15) (h3 : ¬ m ∈ pre) : mrkE ip pre m = 0 := by unfold mrkE; rw [if_pos h, if_pos h2, if_neg h3]
theorem notmem_step {α : Type} {xs : List α} {k : Nat} {x y : α} (hx : xs[k]? = some x) (h : ¬ y ∈ xs.take k) (hn : ¬ y = x) : ¬ y ∈ xs.take (k + 1) := by
  rw [List.take_add_one, hx]
  intro hm
  rcases List.mem_append.1 hm with hm | hm
  · exact h hm
  · exact hn (List.mem_singleton.1 hm)
theorem indexM_c (xa : Option Addr) (xc : Nat) (xs : List Mrk) (y : Mrk) (w : World) (hX : RoL w xa eMark xs) (hl : xs.length ≤ 1000000) : Calls Try.prog 93 [.slice xa xs.length xc, .agg (eMark y).toArray].toArray w fun e w' => ∃ i : Int, e = .returned (.int .i64 i) ∧ (0 ≤ i ↔ y ∈ xs) ∧ Sat w w' [] := by
  refine fstart Try.func93 rfl rfl (Sat.nil w) ?_
  refine Cd.seq ?_
  refine Cd.region ?_
  refine Ops.box [.int .i64 y.inp, .int .i64 y.off] rfl rfl ?_
  intro b1
  refine Ops.q (q_asg rfl) ?_
  refine Ops.to rfl ?_
  refine Cd.seq ?_
  refine Cd.seq ?_
  refine Cd.region ?_
  refine Ops.q (q_mv rfl) ?_
  refine Ops.q (q_len esz_73 rfl) ?_
  refine Ops.q (q_mv rfl) ?_
  refine Ops.to rfl ?_
  refine Cd.block ?_
  refine Cd.lp (σ := Nat) (fun k => k ≤ xs.length ∧ ¬ y ∈ xs.take k) (fun k => [(0, .slice xa xs.length xc), (3, .pointer (some ⟨b1, 0, none⟩)), (7, .int .i64 (xs.length : Int)), (8, .int .i64 (k : Int))]) (fun k => [blk b1 76 [.int .i64 y.inp, .int .i64 y.off]]) (fun k => xs.length - k) 0 ⟨Nat.zero_le _, by simp⟩ ⟨rfl, rfl, rfl, rfl, trivial⟩ (fun _ hs => hs) ?_
  intro k hI
  have hI1 := hI.1
  refine Cd.seq ?_
  refine Cd.region ?_
  by_cases hk : (k : Int) < (xs.length : Int)
  · refine Ops.q (q_cmp rfl rfl (c_lt hk)) ?_
    obtain ⟨x2, hx3⟩ : ∃ x, xs[k]? = some x := ⟨_, List.getElem?_eq_getElem (by omega)⟩
    obtain ⟨ab4, ao5, rfl⟩ := RoL.pos hX eMark_len hx3
    refine Ops.to rfl ?_
    refine Cd.seq ?_
    refine Cd.cond_t rfl ?_
    refine Cd.skipTo rfl ?_
    refine Cd.seq ?_
    refine Cd.block ?_
    refine Cd.seq ?_
    refine Cd.region ?_
    refine Ops.q (q_mv rfl) ?_
    refine Ops.q (q_asg rfl) ?_
    refine Ops.to rfl ?_
    refine Cd.seq ?_
    refine Cd.draw rfl (by kernel_rfl) (.cons .here .nil) ?_
    intro F6 St7 hP8 hF9 hR10
    refine Dr.q (i := 0) hP8 rfl (by kernel_rfl) (q_ldBN [.int .i64 y.inp, .int .i64 y.off] isA_76 sz_76 rfl .here rfl) ?_
    refine Dr.q (i := 1) hP8 rfl (by kernel_rfl) (q_mv rfl) ?_
    refine Dr.q (i := 2) hP8 rfl (by kernel_rfl) (q_mv rfl) ?_
    refine Dr.q (i := 3) hP8 rfl (by kernel_rfl) (q_ix (k := k) esz_73 rfl rfl (by omega)) ?_
    refine Dr.q (i := 4) hP8 rfl (by kernel_rfl) (q_ldRN [.int .i64 x2.inp, .int .i64 x2.off] isA_76 sz_76 rfl (fun j u hu => hX.at eMark_len hx3 hu)) ?_
    by_cases hc11 : y = x2
    · refine Dr.q (i := 5) hP8 rfl (by kernel_rfl) (q_eqT [y.inp, y.off] [x2.inp, x2.off] intS_76 rfl rfl rfl rfl rfl (by rw [hc11])) ?_
      refine Dr.tail 6 (by kernel_rfl) ?_
      refine Ops.sat ?_ (fun _ hs => hR10 .here hs)
      refine Ops.to rfl ?_
      refine Cd.cond_t rfl ?_
      refine Cd.seq ?_
      refine Cd.region ?_
      refine Ops.q (q_mv rfl) ?_
      refine Ops.q (q_asg rfl) ?_
      refine Ops.to rfl ?_
      refine Cd.rt (fn := Try.f93) [.int .i64 (k : Int)] (by with_reducible repeat (first | exact rq_here | apply rq_then | apply rq_block)) rfl ⟨rfl, trivial⟩ ?_
      intro w' hs'
      exact ⟨(k : Int), rfl, ⟨fun _ => hc11 ▸ List.mem_iff_getElem?.2 ⟨k, hx3⟩, fun _ => by omega⟩, hs'.none⟩
    · refine Dr.q (i := 5) hP8 rfl (by kernel_rfl) (q_eqF [y.inp, y.off] [x2.inp, x2.off] intS_76 rfl rfl rfl rfl rfl (fun e => hc11 (by cases y; cases x2; simp at e; simp [e]))) ?_
      refine Dr.tail 6 (by kernel_rfl) ?_
      refine Ops.sat ?_ (fun _ hs => hR10 .here hs)
      refine Ops.to rfl ?_
      refine Cd.cond_f rfl ?_
      refine Cd.skipTo rfl ?_
      refine Cd.region ?_
      refine Ops.q (q_ar rfl rfl (a_inc (by omega))) ?_
      refine Ops.q (q_mv rfl) ?_
      refine Ops.rnd (k + 1) rfl (⟨by omega, notmem_step hx3 hI.2 hc11⟩) (by omega) ⟨rfl, rfl, rfl, rfl, trivial⟩ (fun _ hs => hs) 
  · refine Ops.q (q_cmp rfl rfl (c_nlt (by omega))) ?_
    refine Ops.to rfl ?_
    refine Cd.seq ?_
    refine Cd.cond_f rfl ?_
    refine Cd.exitTo rfl ?_
    refine Cd.seq ?_
    refine Cd.region ?_
    refine Ops.q (q_asg rfl) ?_
    refine Ops.to rfl ?_
    refine Cd.rt (fn := Try.f93) [.int .i64 (-1)] (by with_reducible repeat (first | exact rq_here | apply rq_then | apply rq_block)) rfl ⟨rfl, trivial⟩ ?_
    intro w' hs'
    exact ⟨-1, rfl, ⟨fun h => by omega, fun h => by rw [List.take_of_length_le (by omega)] at hI; exact absurd h hI.2⟩, hs'.none⟩
theorem containsM_c (xa : Option Addr) (xc : Nat) (xs : List Mrk) (y : Mrk) (w : World) (hX : RoL w xa eMark xs) (hl : xs.length ≤ 1000000) : Calls Try.prog 70 [.slice xa xs.length xc, .agg (eMark y).toArray].toArray w fun e w' => e = .returned (.bool (decide (y ∈ xs))) ∧ Sat w w' [] := by
  refine fstart Try.func70 rfl rfl (Sat.nil w) ?_
  refine Cd.seq ?_
  refine Cd.region ?_
  refine Ops.box [.int .i64 y.inp, .int .i64 y.off] rfl rfl ?_
  intro b1
  refine Ops.q (q_asg rfl) ?_
  refine Ops.to rfl ?_
  refine Cd.seq ?_
  refine Cd.region ?_
  refine Ops.q (q_mv rfl) ?_
  refine Ops.q (q_ldBN [.int .i64 y.inp, .int .i64 y.off] isA_76 sz_76 rfl .here rfl) ?_
  refine Ops.cl (α := {i : Int // 0 ≤ i ↔ y ∈ xs}) (v := fun i => .int .i64 i.1) (B := fun _ => []) en_93 rfl (fun w hs => (indexM_c _ _ xs y w (hX.later hs.below) hl).mono fun e w' h => by obtain ⟨i, h1, h2, h3⟩ := h; exact ⟨⟨i, h2⟩, h1, h3⟩) ?_
  intro i
  by_cases h2 : 0 ≤ i.1
  · refine Ops.q (q_cmp rfl rfl (c_ge h2)) ?_
    refine Ops.q (q_asg rfl) ?_
    refine Ops.to rfl ?_
    refine Cd.rt (fn := Try.f70) [.bool true] (by with_reducible repeat (first | exact rq_here | apply rq_then | apply rq_block)) rfl ⟨rfl, trivial⟩ ?_
    intro w' hs'
    exact ⟨ebool (by rw [← i.2]; simp; try omega), hs'.none⟩
  · refine Ops.q (q_cmp rfl rfl (c_nge (by omega))) ?_
    refine Ops.q (q_asg rfl) ?_
    refine Ops.to rfl ?_
    refine Cd.rt (fn := Try.f70) [.bool false] (by with_reducible repeat (first | exact rq_here | apply rq_then | apply rq_block)) rfl ⟨rfl, trivial⟩ ?_
    intro w' hs'
    exact ⟨ebool (by rw [← i.2]; simp; try omega), hs'.none⟩
theorem containsK_c (ma : Option Addr) (mc k : Nat) (ms : List Mrk) (y : Mrk) (w : World) (hM : RoL w ma eMark ms) (hl : ms.length ≤ 1000000) (hk : k ≤ ms.length) : Calls Try.prog 70 [.slice ma k mc, .agg (eMark y).toArray].toArray w fun e w' => e = .returned (.bool (decide (y ∈ ms.take k))) ∧ Sat w w' [] := by
  have h := containsM_c ma mc (ms.take k) y w (RoL.take hM k) (by rw [List.length_take]; omega)
  rwa [List.length_take, Nat.min_eq_left hk] at h
theorem pattern_c (ip : Int) (ma : Option Addr) (mc : Nat) (ms : List Mrk) (miss : Int) (w : World) (hM : RoL w ma eMark ms) (hmc : ms.length ≤ mc) : Calls Try.prog 32 [.int .i64 ip, .slice ma ms.length mc, .int .i64 miss].toArray w (RetR (patP ip ms miss) w) := by
  refine fstart Try.func32 rfl rfl (Sat.nil w) ?_
  refine Cd.seq ?_
  refine Cd.region ?_
  refine Ops.alc [.slice none 0 0, .int .i64 0, .slice none 0 0] zc_32 ?_
  intro b1
  refine Ops.q (q_asg rfl) ?_
  refine Ops.to rfl ?_
  refine Cd.seq ?_
  refine Cd.block ?_
  refine Cd.seq ?_
  refine Cd.region ?_
  refine Ops.q (q_mv rfl) ?_
  by_cases h2 : wi ip 1 256
  · refine Ops.cp en_57 rfl (fun w hs => dT (in_c _ _ _ w) h2) ?_
    refine Ops.q (q_not rfl) ?_
    refine Ops.q (q_asg rfl) ?_
    refine Ops.to rfl ?_
    refine Cd.cond_f rfl ?_
    refine Cd.seq ?_
    refine Cd.region ?_
    have hip := h2
    unfold wi at hip
    refine Ops.q (q_mv rfl) ?_
    refine Ops.q (q_len esz_73 rfl) ?_
    by_cases h3 : 64 < (ms.length : Int)
    · refine Ops.q (q_cmp rfl rfl (c_gt h3)) ?_
      refine Ops.q (q_asg rfl) ?_
      refine Ops.to rfl ?_
      refine Cd.cond_t rfl ?_
      refine Cd.seq ?_
      refine Cd.region ?_
      refine Ops.q (q_bld [.slice none 0 0, .int .i64 0, .slice none 0 0] pls_32 zc_32 rfl rfl) ?_
      refine Ops.stB [.slice none 0 0, .int .i64 0, .slice none 0 0] [.slice none 0 0, .int .i64 0, .slice none 0 0] sz_32 rfl rfl rfl (one rfl) .here rfl rfl ?_
      refine Ops.q (q_asg rfl) ?_
      refine Ops.to rfl ?_
      refine Cd.rt (fn := Try.f32) [.agg [.slice none 0 0, .int .i64 0, .slice none 0 0].toArray, .int .i64 9] (by with_reducible repeat (first | exact rq_here | apply rq_then | apply rq_block)) rfl ⟨⟨_, _, rfl, fun _ hs => run_loadN isA_32 sz_32 (fun o u hu => Sat.atB .here (by rw [Nat.zero_add]; exact hu) hs)⟩, rfl, trivial⟩ ?_
      intro w' hs'
      rw [show patP ip ms miss = .error 9 by unfold patP; rw [if_pos h2, if_pos (by omega)]]
      exact ⟨rfl, hs'.none⟩
    · refine Ops.q (q_cmp rfl rfl (c_ngt (by omega))) ?_
      refine Ops.q (q_asg rfl) ?_
      refine Ops.to rfl ?_
      refine Cd.cond_f rfl ?_
      refine Cd.seq ?_
      refine Cd.region ?_
      refine Ops.q (q_mv rfl) ?_
      refine Ops.q (q_len esz_73 rfl) ?_
      by_cases h0 : (ms.length : Int) = 0
      · refine Ops.q (q_cmp rfl rfl (c_eq h0)) ?_
        refine Ops.q (q_asg rfl) ?_
        refine Ops.to rfl ?_
        refine Cd.cond_t rfl ?_
        refine Cd.seq ?_
        refine Cd.region ?_
        refine Ops.q (q_bld [.slice none 0 0, .int .i64 0, .slice none 0 0] pls_32 zc_32 rfl rfl) ?_
        refine Ops.stB [.slice none 0 0, .int .i64 0, .slice none 0 0] [.slice none 0 0, .int .i64 0, .slice none 0 0] sz_32 rfl rfl rfl (one rfl) .here rfl rfl ?_
        refine Ops.q (q_asg rfl) ?_
        refine Ops.to rfl ?_
        refine Cd.rt (fn := Try.f32) [.agg [.slice none 0 0, .int .i64 0, .slice none 0 0].toArray, .int .i64 2] (by with_reducible repeat (first | exact rq_here | apply rq_then | apply rq_block)) rfl ⟨⟨_, _, rfl, fun _ hs => run_loadN isA_32 sz_32 (fun o u hu => Sat.atB .here (by rw [Nat.zero_add]; exact hu) hs)⟩, rfl, trivial⟩ ?_
        intro w' hs'
        rw [show patP ip ms miss = .error 2 by unfold patP; rw [if_pos h2, if_neg (by omega), if_pos (by omega)]]
        exact ⟨rfl, hs'.none⟩
      · refine Ops.q (q_cmp rfl rfl (c_neq h0)) ?_
        refine Ops.q (q_asg rfl) ?_
        refine Ops.to rfl ?_
        refine Cd.cond_f rfl ?_
        refine Cd.skipTo rfl ?_
        refine Cd.seq ?_
        refine Cd.region ?_
        refine Ops.q (q_mv rfl) ?_
        refine Ops.q (q_bld [.slice none 0 0, .int .i64 ip, .slice none 0 0] pls_32 zc_32 rfl rfl) ?_
        refine Ops.q (q_bld [.slice none 0 0, .int .i64 ip, .slice none 0 0] pls_114 zc_114 rfl rfl) ?_
        refine Ops.alc [.slice none 0 0, .int .i64 0, .slice none 0 0] zc_114 ?_
        intro b4
        refine Ops.stB [.slice none 0 0, .int .i64 ip, .slice none 0 0] [.slice none 0 0, .int .i64 ip, .slice none 0 0] sz_114 rfl rfl rfl (one rfl) .here rfl rfl ?_
        refine Ops.to rfl ?_
        refine Cd.seq ?_
        refine Cd.seq ?_
        refine Cd.nilRow 126 4 ?_
        refine Cd.nilRow 116 8 ?_
        change Cd _ _ _ _ _ _ _ _ ([row none 0 116 8 (([] : List Prm).length) (([] : List Prm).flatMap ePrm), row none 0 126 4 (([] : List Syn).length) (([] : List Syn).flatMap eSyn), blk b4 114 [.slice none (([] : List Prm).length) 0, .int .i64 ip, .slice none (([] : List Syn).length) 0], blk b1 32 [.slice none 0 0, .int .i64 0, .slice none 0 0]])
        refine Cd.region ?_
        refine Ops.q (q_mv rfl) ?_
        refine Ops.q (q_len esz_73 rfl) ?_
        refine Ops.q (q_mv rfl) ?_
        refine Ops.to rfl ?_
        refine Cd.block ?_
        refine Cd.lp (σ := Nat × Option Addr × Nat) (fun s => s.1 ≤ ms.length ∧ patE ip (ms.take s.1) (ms.drop s.1) = patE ip [] ms) (fun s => [(0, .int .i64 ip), (1, .slice ma ms.length mc), (2, .int .i64 miss), (6, .pointer (some ⟨b1, 0, none⟩)), (8, .pointer (some ⟨b4, 0, none⟩)), (29, .slice ma ms.length mc), (30, .int .i64 (ms.length : Int)), (31, .int .i64 (s.1 : Int))]) (fun s => [blk b4 114 [.slice none (([] : List Prm).length) 0, .int .i64 ip, .slice s.2.1 ((([] : List Syn) ++ (ms.take s.1).map mrkS).length) s.2.2], row none 0 116 8 (([] : List Prm).length) (([] : List Prm).flatMap ePrm), row s.2.1 s.2.2 126 4 ((([] : List Syn) ++ (ms.take s.1).map mrkS).length) ((([] : List Syn) ++ (ms.take s.1).map mrkS).flatMap eSyn), blk b1 32 [.slice none 0 0, .int .i64 0, .slice none 0 0]]) (fun s => ms.length - s.1) (0, none, 0) ⟨Nat.zero_le _, rfl⟩ ⟨rfl, rfl, rfl, rfl, rfl, rfl, rfl, rfl, trivial⟩ (fun _ hs => by have h1 := ((((hs.pull (.there (.there (.there .here)))).pull (.there (.there .here))).pull (.there (.there .here))).pull (.there (.there (.there .here)))); exact h1) ?_
        rintro ⟨k, qa, qc⟩ hI
        dsimp only at hI
        change Cd _ _ _ _ _ _ _ [(0, .int .i64 ip), (1, .slice ma ms.length mc), (2, .int .i64 miss), (6, .pointer (some ⟨b1, 0, none⟩)), (8, .pointer (some ⟨b4, 0, none⟩)), (29, .slice ma ms.length mc), (30, .int .i64 (ms.length : Int)), (31, .int .i64 (k : Int))] ([blk b4 114 [.slice none (([] : List Prm).length) 0, .int .i64 ip, .slice qa ((([] : List Syn) ++ (ms.take k).map mrkS).length) qc], row none 0 116 8 (([] : List Prm).length) (([] : List Prm).flatMap ePrm), row qa qc 126 4 ((([] : List Syn) ++ (ms.take k).map mrkS).length) ((([] : List Syn) ++ (ms.take k).map mrkS).flatMap eSyn), blk b1 32 [.slice none 0 0, .int .i64 0, .slice none 0 0]])
        have hI1 := hI.1
        refine Cd.seq ?_
        refine Cd.region ?_
        by_cases hk : (k : Int) < (ms.length : Int)
        · refine Ops.q (q_cmp rfl rfl (c_lt hk)) ?_
          obtain ⟨x5, hx6⟩ : ∃ x, ms[k]? = some x := ⟨_, List.getElem?_eq_getElem (by omega)⟩
          obtain ⟨ab7, ao8, rfl⟩ := RoL.pos hM eMark_len hx6
          refine Ops.to rfl ?_
          refine Cd.seq ?_
          refine Cd.cond_t rfl ?_
          refine Cd.skipTo rfl ?_
          refine Cd.seq ?_
          refine Cd.block ?_
          refine Cd.seq ?_
          refine Cd.region ?_
          refine Ops.q (q_mv rfl) ?_
          refine Ops.q (q_ix (k := k) esz_73 rfl rfl (by omega)) ?_
          refine Ops.q (q_ldRN [.int .i64 x5.inp, .int .i64 x5.off] isA_76 sz_76 rfl (fun j u hu => hM.at eMark_len hx6 hu)) ?_
          refine Ops.alc [.int .i64 0, .int .i64 0] zc_76 ?_
          intro b9
          refine Ops.q (q_asg rfl) ?_
          refine Ops.stB [.int .i64 x5.inp, .int .i64 x5.off] [.int .i64 x5.inp, .int .i64 x5.off] sz_76 rfl rfl rfl (one rfl) .here rfl rfl ?_
          refine Ops.to rfl ?_
          refine Cd.seq ?_
          refine Cd.block ?_
          refine Cd.seq ?_
          refine Cd.region ?_
          refine Ops.q (q_fa fo_76_0 rfl) ?_
          refine Ops.q (q_ldB isA_3 rfl .here rfl) ?_
          refine Ops.q (q_mv rfl) ?_
          refine Ops.q (q_ar (v := ip - 1) rfl rfl (a_sub (by omega))) ?_
          by_cases h10 : wi x5.inp 0 (ip - 1)
          · refine Ops.cp en_57 rfl (fun w hs => dT (in_c _ _ _ w) h10) ?_
            refine Ops.q (q_not rfl) ?_
            refine Ops.q (q_asg rfl) ?_
            refine Ops.to rfl ?_
            refine Cd.cond_f rfl ?_
            refine Cd.seq ?_
            refine Cd.region ?_
            refine Ops.q (q_fa fo_76_1 rfl) ?_
            refine Ops.q (q_ldB isA_3 rfl .here rfl) ?_
            by_cases h11 : wi x5.off 0 15
            · refine Ops.cp en_57 rfl (fun w hs => dT (in_c _ _ _ w) h11) ?_
              refine Ops.q (q_not rfl) ?_
              refine Ops.q (q_asg rfl) ?_
              refine Ops.to rfl ?_
              refine Cd.cond_f rfl ?_
              refine Cd.seq ?_
              refine Cd.draw rfl (by kernel_rfl) (.cons .here .nil) ?_
              intro F12 St13 hP14 hF15 hR16
              refine Dr.q (i := 0) hP14 rfl (by kernel_rfl) (q_mv rfl) ?_
              refine Dr.q (i := 1) hP14 rfl (by kernel_rfl) (q_mv rfl) ?_
              refine Dr.q (i := 2) hP14 rfl (by kernel_rfl) (q_cutHP (k := k) el_73 sz_76 rfl rfl (by omega)) ?_
              refine Dr.q (i := 3) hP14 rfl (by kernel_rfl) (q_ldBN [.int .i64 x5.inp, .int .i64 x5.off] isA_76 sz_76 rfl .here rfl) ?_
              refine Dr.e (i := 4) rfl (by kernel_rfl) ?_
              by_cases h17 : x5 ∈ ms.take k
              · refine Ops.cp en_70 rfl (fun w hs => dT (containsK_c _ _ k ms x5 w (hM.later hs.below) (by omega) (by omega)) h17) ?_
                refine Dr.back (fun _ hs => hF15 .here hs) ?_
                refine Dr.q (i := 5) hP14 rfl (by kernel_rfl) (q_asg rfl) ?_
                refine Dr.tail 6 (by kernel_rfl) ?_
                refine Ops.sat ?_ (fun _ hs => hR16 .here hs)
                refine Ops.to rfl ?_
                refine Cd.cond_t rfl ?_
                refine Cd.seq ?_
                refine Cd.region ?_
                refine Ops.q (q_bld [.slice none 0 0, .int .i64 0, .slice none 0 0] pls_32 zc_32 rfl rfl) ?_
                refine Ops.stB [.slice none 0 0, .int .i64 0, .slice none 0 0] [.slice none 0 0, .int .i64 0, .slice none 0 0] sz_32 rfl rfl rfl (one rfl) (.there (.there (.there (.there .here)))) rfl rfl ?_
                refine Ops.q (q_asg rfl) ?_
                refine Ops.to rfl ?_
                refine Cd.rt (fn := Try.f32) [.agg [.slice none 0 0, .int .i64 0, .slice none 0 0].toArray, .int .i64 5] (by with_reducible repeat (first | exact rq_here | apply rq_then | apply rq_block)) rfl ⟨⟨_, _, rfl, fun _ hs => run_loadN isA_32 sz_32 (fun o u hu => Sat.atB (.there (.there (.there (.there .here)))) (by rw [Nat.zero_add]; exact hu) hs)⟩, rfl, trivial⟩ ?_
                intro w' hs'
                have h8 : mrkE ip (ms.take k) x5 = 5 := mrkE_5 h10 h11 h17
                have h9 : patE ip [] ms = 5 := by rw [← hI.2, patE_stop hx6 (by omega), h8]
                rw [show patP ip ms miss = .error 5 by unfold patP; rw [if_pos h2, if_neg (by omega), if_neg (by omega), h9, if_pos (by decide)]]
                exact ⟨rfl, hs'.none⟩
              · refine Ops.cp en_70 rfl (fun w hs => dF (containsK_c _ _ k ms x5 w (hM.later hs.below) (by omega) (by omega)) h17) ?_
                refine Dr.back (fun _ hs => hF15 .here hs) ?_
                refine Dr.q (i := 5) hP14 rfl (by kernel_rfl) (q_asg rfl) ?_
                refine Dr.tail 6 (by kernel_rfl) ?_
                refine Ops.sat ?_ (fun _ hs => hR16 .here hs)
                refine Ops.to rfl ?_
                refine Cd.cond_f rfl ?_
                refine Cd.skipTo rfl ?_
                refine Cd.region ?_
                have hti := h10
                have hto := h11
                unfold wi at hti hto
                refine Ops.q (q_fa fo_76_0 rfl) ?_
                refine Ops.q (q_ldB isA_3 rfl .here rfl) ?_
                refine Ops.q (q_fa fo_76_1 rfl) ?_
                refine Ops.q (q_ldB isA_3 rfl .here rfl) ?_
                refine Ops.q (q_ar (v := 16 - x5.off) rfl rfl (a_sub (by omega))) ?_
                refine Ops.cm (α := Option Addr × Nat) (v := fun _ => .tuple #[]) (A' := fun p => [blk b4 114 [.slice none (([] : List Prm).length) 0, .int .i64 ip, .slice p.1 (((([] : List Syn) ++ (ms.take k).map mrkS) ++ [(⟨-1 - x5.inp, 0, 1, 16 - x5.off⟩ : Syn)]).length) p.2], row none 0 116 8 (([] : List Prm).length) (([] : List Prm).flatMap ePrm), row p.1 p.2 126 4 (((([] : List Syn) ++ (ms.take k).map mrkS) ++ [(⟨-1 - x5.inp, 0, 1, 16 - x5.off⟩ : Syn)]).length) (((([] : List Syn) ++ (ms.take k).map mrkS) ++ [(⟨-1 - x5.inp, 0, 1, 16 - x5.off⟩ : Syn)]).flatMap eSyn), blk b9 76 [.int .i64 x5.inp, .int .i64 x5.off], blk b1 32 [.slice none 0 0, .int .i64 0, .slice none 0 0]]) en_51 rfl (fun w hs => feed_c _ _ _ _ _ ([] : List Prm) _ (([] : List Syn) ++ (ms.take k).map mrkS) x5.inp 0 1 (16 - x5.off) _ w _ (by simp only [List.length_append, List.length_map, List.length_take, List.length_nil]; omega) (by omega) ((((((hs.pull (.there (.there (.there (.there .here))))).pull (.there .here)).pull (.there (.there (.there (.there .here))))).pull (.there (.there (.there (.there .here))))).pull (.there (.there (.there (.there .here))))))) ?_
                rintro ⟨a18, c19⟩
                refine Ops.to rfl ?_
                refine Cd.region ?_
                refine Ops.q (q_ar rfl rfl (a_inc (by omega))) ?_
                refine Ops.q (q_mv rfl) ?_
                refine Ops.rnd ((k + 1, a18, c19)) rfl (by dsimp only; exact (⟨by omega, by rw [← hI.2]; exact (patE_step hx6 (mrkE_0 h10 h11 h17)).symm⟩)) (by dsimp only; omega) ⟨rfl, rfl, rfl, rfl, rfl, rfl, rfl, rfl, trivial⟩ (fun _ hs => by have h1 := (((((hs.pull (.there (.there (.there (.there .here))))).pull (.there (.there (.there .here)))).pull (.there (.there (.there .here)))).pull (.there (.there (.there .here)))).pull (.there (.there (.there (.there .here))))).drop; dsimp only; rw [mapT _ hx6, ← List.append_assoc]; exact h1) 
            · refine Ops.cp en_57 rfl (fun w hs => dF (in_c _ _ _ w) h11) ?_
              refine Ops.q (q_not rfl) ?_
              refine Ops.q (q_asg rfl) ?_
              refine Ops.to rfl ?_
              refine Cd.cond_t rfl ?_
              refine Cd.seq ?_
              refine Cd.region ?_
              refine Ops.q (q_bld [.slice none 0 0, .int .i64 0, .slice none 0 0] pls_32 zc_32 rfl rfl) ?_
              refine Ops.stB [.slice none 0 0, .int .i64 0, .slice none 0 0] [.slice none 0 0, .int .i64 0, .slice none 0 0] sz_32 rfl rfl rfl (one rfl) (.there (.there (.there (.there .here)))) rfl rfl ?_
              refine Ops.q (q_asg rfl) ?_
              refine Ops.to rfl ?_
              refine Cd.rt (fn := Try.f32) [.agg [.slice none 0 0, .int .i64 0, .slice none 0 0].toArray, .int .i64 3] (by with_reducible repeat (first | exact rq_here | apply rq_then | apply rq_block)) rfl ⟨⟨_, _, rfl, fun _ hs => run_loadN isA_32 sz_32 (fun o u hu => Sat.atB (.there (.there (.there (.there .here)))) (by rw [Nat.zero_add]; exact hu) hs)⟩, rfl, trivial⟩ ?_
              intro w' hs'
              have h8 : mrkE ip (ms.take k) x5 = 3 := mrkE_3 h10 h11
              have h9 : patE ip [] ms = 3 := by rw [← hI.2, patE_stop hx6 (by omega), h8]
              rw [show patP ip ms miss = .error 3 by unfold patP; rw [if_pos h2, if_neg (by omega), if_neg (by omega), h9, if_pos (by decide)]]
              exact ⟨rfl, hs'.none⟩
          · refine Ops.cp en_57 rfl (fun w hs => dF (in_c _ _ _ w) h10) ?_
            refine Ops.q (q_not rfl) ?_
            refine Ops.q (q_asg rfl) ?_
            refine Ops.to rfl ?_
            refine Cd.cond_t rfl ?_
            refine Cd.seq ?_
            refine Cd.region ?_
            refine Ops.q (q_bld [.slice none 0 0, .int .i64 0, .slice none 0 0] pls_32 zc_32 rfl rfl) ?_
            refine Ops.stB [.slice none 0 0, .int .i64 0, .slice none 0 0] [.slice none 0 0, .int .i64 0, .slice none 0 0] sz_32 rfl rfl rfl (one rfl) (.there (.there (.there (.there .here)))) rfl rfl ?_
            refine Ops.q (q_asg rfl) ?_
            refine Ops.to rfl ?_
            refine Cd.rt (fn := Try.f32) [.agg [.slice none 0 0, .int .i64 0, .slice none 0 0].toArray, .int .i64 4] (by with_reducible repeat (first | exact rq_here | apply rq_then | apply rq_block)) rfl ⟨⟨_, _, rfl, fun _ hs => run_loadN isA_32 sz_32 (fun o u hu => Sat.atB (.there (.there (.there (.there .here)))) (by rw [Nat.zero_add]; exact hu) hs)⟩, rfl, trivial⟩ ?_
            intro w' hs'
            have h8 : mrkE ip (ms.take k) x5 = 4 := mrkE_4 h10
            have h9 : patE ip [] ms = 4 := by rw [← hI.2, patE_stop hx6 (by omega), h8]
            rw [show patP ip ms miss = .error 4 by unfold patP; rw [if_pos h2, if_neg (by omega), if_neg (by omega), h9, if_pos (by decide)]]
            exact ⟨rfl, hs'.none⟩
        · refine Ops.q (q_cmp rfl rfl (c_nlt (by omega))) ?_
          refine Ops.to rfl ?_
          refine Cd.seq ?_
          refine Cd.cond_f rfl ?_
          refine Cd.exitTo rfl ?_
          refine Cd.seq ?_
          refine Cd.seq ?_
          refine Cd.region ?_
          refine Ops.q (q_mv rfl) ?_
          refine Ops.q (q_mv rfl) ?_
          refine Ops.q (q_len esz_73 rfl) ?_
          refine Ops.q (q_ar (v := (ms.length : Int) - 1) rfl rfl (a_sub (by omega))) ?_
          by_cases h20 : wi miss 0 ((ms.length : Int) - 1)
          · refine Ops.cp en_57 rfl (fun w hs => dT (in_c _ _ _ w) h20) ?_
            refine Ops.q (q_not rfl) ?_
            refine Ops.to rfl ?_
            refine Cd.cond_f rfl ?_
            refine Cd.skipTo rfl ?_
            refine Cd.seq ?_
            refine Cd.region ?_
            have hmi := h20
            unfold wi at hmi
            refine Ops.cp en_48 rfl (fun w hs => gate_c w) ?_
            refine Ops.cl (α := Nat × Nat) (v := fun x => .func (.func 86) #[] #[.pointer (some ⟨x.1, 0, none⟩), .pointer (some ⟨x.2, 0, none⟩)]) (B := fun x => [blk x.1 116 (ePrm (gateP 0)), blk x.2 161 [.pointer (some ⟨b4, 0, none⟩)]]) en_49 rfl (fun w hs => grow_c b4 (gateP 0) w) ?_
            rintro ⟨pb21, bb22⟩
            refine Ops.q (q_mv rfl) ?_
            refine Ops.q (q_len esz_73 rfl) ?_
            refine Ops.q (q_mv rfl) ?_
            refine Ops.q (q_ar (v := (ms.length : Int) - miss) rfl rfl (a_sub (by omega))) ?_
            refine Ops.lit [.int .i64 ((ms.length : Int) - miss)] el_26 zsb_3 rfl rfl ⟨by decide, by decide⟩ rfl ?_
            intro b23
            refine Ops.cv (α := Option Addr × Nat) (k := 86) (first := []) (caps := [.pointer (some ⟨pb21, 0, none⟩), .pointer (some ⟨bb22, 0, none⟩)]) (vs := [.slice (some ⟨b23, 0, none⟩) ([((ms.length : Int) - miss)].length) 1]) (v := fun _ => .tuple #[]) (A' := fun p => [blk b4 114 [.slice p.1 ((([] : List Prm) ++ [((ms.length : Int) - miss)].map (setTh (gateP 0))).length) p.2, .int .i64 ip, .slice qa ((([] : List Syn) ++ (ms.take k).map mrkS).length) qc], row p.1 p.2 116 8 ((([] : List Prm) ++ [((ms.length : Int) - miss)].map (setTh (gateP 0))).length) ((([] : List Prm) ++ [((ms.length : Int) - miss)].map (setTh (gateP 0))).flatMap ePrm), row qa qc 126 4 ((([] : List Syn) ++ (ms.take k).map mrkS).length) ((([] : List Syn) ++ (ms.take k).map mrkS).flatMap eSyn), blk pb21 116 (ePrm (gateP 0)), blk bb22 161 [.pointer (some ⟨b4, 0, none⟩)], row (some ⟨b23, 0, none⟩) 1 3 1 ([((ms.length : Int) - miss)].length) ([((ms.length : Int) - miss)].flatMap eInt), blk b1 32 [.slice none 0 0, .int .i64 0, .slice none 0 0]]) en_86 rfl rfl (fun w hs => grown_c b4 _ _ _ _ ([] : List Prm) _ (([] : List Syn) ++ (ms.take k).map mrkS) pb21 bb22 _ _ [((ms.length : Int) - miss)] _ _ w _ (by simp only [List.length_cons, List.length_nil]; omega) ((((((((hs.pull (.there (.there (.there (.there (.there (.there .here))))))).pull (.there .here)).pull (.there (.there (.there .here)))).pull (.there (.there (.there .here)))).pull (.there (.there (.there (.there (.there (.there .here))))))).pull (.there (.there (.there (.there (.there (.there .here))))))).pull (.there (.there (.there (.there (.there (.there .here))))))))) ?_
            rintro ⟨a24, c25⟩
            refine Ops.to rfl ?_
            refine Cd.seq ?_
            refine Cd.region ?_
            refine Ops.q (q_fa fo_114_0 rfl) ?_
            refine Ops.q (q_ldBN [.slice a24 ((([] : List Prm) ++ [((ms.length : Int) - miss)].map (setTh (gateP 0))).length) c25, .int .i64 ip, .slice qa ((([] : List Syn) ++ (ms.take k).map mrkS).length) qc] isA_32 sz_32 rfl .here rfl) ?_
            refine Ops.stB [.slice a24 ((([] : List Prm) ++ [((ms.length : Int) - miss)].map (setTh (gateP 0))).length) c25, .int .i64 ip, .slice qa ((([] : List Syn) ++ (ms.take k).map mrkS).length) qc] [.slice a24 ((([] : List Prm) ++ [((ms.length : Int) - miss)].map (setTh (gateP 0))).length) c25, .int .i64 ip, .slice qa ((([] : List Syn) ++ (ms.take k).map mrkS).length) qc] sz_32 rfl rfl rfl (one rfl) (.there (.there (.there (.there (.there (.there .here)))))) rfl rfl ?_
            refine Ops.q (q_asg rfl) ?_
            refine Ops.to rfl ?_
            refine Cd.rt (fn := Try.f32) [.agg [.slice a24 ((([] : List Prm) ++ [((ms.length : Int) - miss)].map (setTh (gateP 0))).length) c25, .int .i64 ip, .slice qa ((([] : List Syn) ++ (ms.take k).map mrkS).length) qc].toArray, .int .i64 0] (by with_reducible repeat (first | exact rq_here | apply rq_then | apply rq_block)) rfl ⟨⟨_, _, rfl, fun _ hs => run_loadN isA_32 sz_32 (fun o u hu => Sat.atB (.there (.there (.there (.there (.there (.there .here)))))) (by rw [Nat.zero_add]; exact hu) hs)⟩, rfl, trivial⟩ ?_
            intro w' hs'
            have h9 : patE ip [] ms = 0 := by rw [← hI.2, patE_end (by omega)]
            have hP : patP ip ms miss = .ok ⟨(([] : List Prm) ++ [((ms.length : Int) - miss)].map (setTh (gateP 0))), ip, (([] : List Syn) ++ ms.map mrkS)⟩ := by unfold patP; rw [if_pos h2, if_neg (by omega), if_neg (by omega), h9, if_neg (by decide), if_pos h20]; rfl
            rw [List.take_of_length_le (show ms.length ≤ k by omega)] at hs'
            rw [hP]
            exact ⟨(a24, c25), (qa, qc), by rw [List.take_of_length_le (show ms.length ≤ k by omega)]; rfl, (((((((hs'.pull (.there (.there .here))).pull (.there (.there .here))).pull (.there (.there .here))).drop.pull (.there (.there .here))).drop.pull (.there (.there .here))).drop.pull (.there (.there .here))).drop.pull (.there (.there .here))).drop⟩
          · refine Ops.cp en_57 rfl (fun w hs => dF (in_c _ _ _ w) h20) ?_
            refine Ops.q (q_not rfl) ?_
            refine Ops.to rfl ?_
            refine Cd.cond_t rfl ?_
            refine Cd.seq ?_
            refine Cd.region ?_
            refine Ops.q (q_bld [.slice none 0 0, .int .i64 0, .slice none 0 0] pls_32 zc_32 rfl rfl) ?_
            refine Ops.stB [.slice none 0 0, .int .i64 0, .slice none 0 0] [.slice none 0 0, .int .i64 0, .slice none 0 0] sz_32 rfl rfl rfl (one rfl) (.there (.there (.there .here))) rfl rfl ?_
            refine Ops.q (q_asg rfl) ?_
            refine Ops.to rfl ?_
            refine Cd.rt (fn := Try.f32) [.agg [.slice none 0 0, .int .i64 0, .slice none 0 0].toArray, .int .i64 3] (by with_reducible repeat (first | exact rq_here | apply rq_then | apply rq_block)) rfl ⟨⟨_, _, rfl, fun _ hs => run_loadN isA_32 sz_32 (fun o u hu => Sat.atB (.there (.there (.there .here))) (by rw [Nat.zero_add]; exact hu) hs)⟩, rfl, trivial⟩ ?_
            intro w' hs'
            have h9 : patE ip [] ms = 0 := by rw [← hI.2, patE_end (by omega)]
            rw [show patP ip ms miss = .error 3 by unfold patP; rw [if_pos h2, if_neg (by omega), if_neg (by omega), h9, if_neg (by decide), if_neg h20]]
            exact ⟨rfl, hs'.none⟩
  · refine Ops.cp en_57 rfl (fun w hs => dF (in_c _ _ _ w) h2) ?_
    refine Ops.q (q_not rfl) ?_
    refine Ops.q (q_asg rfl) ?_
    refine Ops.to rfl ?_
    refine Cd.cond_t rfl ?_
    refine Cd.seq ?_
    refine Cd.region ?_
    refine Ops.q (q_bld [.slice none 0 0, .int .i64 0, .slice none 0 0] pls_32 zc_32 rfl rfl) ?_
    refine Ops.stB [.slice none 0 0, .int .i64 0, .slice none 0 0] [.slice none 0 0, .int .i64 0, .slice none 0 0] sz_32 rfl rfl rfl (one rfl) .here rfl rfl ?_
    refine Ops.q (q_asg rfl) ?_
    refine Ops.to rfl ?_
    refine Cd.rt (fn := Try.f32) [.agg [.slice none 0 0, .int .i64 0, .slice none 0 0].toArray, .int .i64 3] (by with_reducible repeat (first | exact rq_here | apply rq_then | apply rq_block)) rfl ⟨⟨_, _, rfl, fun _ hs => run_loadN isA_32 sz_32 (fun o u hu => Sat.atB .here (by rw [Nat.zero_add]; exact hu) hs)⟩, rfl, trivial⟩ ?_
    intro w' hs'
    rw [show patP ip ms miss = .error 3 by unfold patP; rw [if_neg h2]]
    exact ⟨rfl, hs'.none⟩
end Go.Proofs.Ytilcdghliigngaa
namespace Go.Proofs.YtilcdghliigngaaGl
set_option linter.unusedVariables false
set_option linter.unusedSimpArgs false
open Go.RowKit
section
variable {P : Program} {r : Option Nat} {ops : Array Oper} {Q : Exit → Act → World → Prop} {w0 : World} {n : Nat} {D : List Deferred} {rest : List Oper} {L : Env} {A : List Atom}
variable {t : Nat} {ty : TypeId} {pos : String} {af : Array Edge} {g : Option (Nat × Bool)}
theorem sat_ext {w : World} {b cap sz m k : Nat} {E : TypeId} {cs : List Value} (h : Sat w0 w (row (some ⟨b, 0, none⟩) cap E sz m cs :: A)) (hk : m + k ≤ cap) :
    ∃ xs : List Value, xs.length = k * sz ∧ Sat w0 w (row (some ⟨b, 0, none⟩) cap E sz (m + k) (cs ++ xs) :: A) := by
  obtain ⟨S, hS, _, hgo⟩ := h.step
  obtain ⟨⟨hlen, hown⟩, hSb⟩ := hS
  rcases hown with ⟨h0, _⟩ | ⟨b', cap', cur, hv0, _, hh, h2, h3, h4, h5⟩
  · cases h0
  · cases hv0
    have hsz : (m + k) * sz ≤ cur.size := by rw [h4]; exact Nat.mul_le_mul_right _ hk
    refine ⟨(cur.toList.drop (m * sz)).take (k * sz), ?_, ?_⟩
    · rw [List.length_take, List.length_drop, Array.length_toList]
      rw [Nat.add_mul] at hsz; omega
    · refine hgo (S' := fun q => (Value.slice (some ⟨b, 0, none⟩) (m + k) cap).ownBlock = some q) ⟨⟨?_, .inr ⟨b, cap, cur, rfl, Nat.zero_le _, hh, hk, h3, h4, ?_⟩⟩, fun _ => Iff.rfl⟩ (fun q hq => .inl ((hSb q).2 (by simpa [Value.ownBlock] using hq))) rfl rfl rfl (Nat.le_refl _) (fun _ _ _ => rfl)
      · rw [List.length_append, hlen, List.length_take, List.length_drop, Array.length_toList]
        rw [Nat.add_mul] at hsz ⊢; omega
      · rw [← h5, Nat.add_mul, List.take_add]
theorem Ops.ext {b cap sz m k : Nat} {E : TypeId} {cs : List Value} {R : List Atom} (hp : Pull A (row (some ⟨b, 0, none⟩) cap E sz m cs) R) (hk : m + k ≤ cap)
    (h : ∀ xs, xs.length = k * sz → Ops P r ops Q w0 n D rest L (row (some ⟨b, 0, none⟩) cap E sz (m + k) (cs ++ xs) :: R)) : Ops P r ops Q w0 n D rest L A := fun ac w hkn hs => by
  obtain ⟨xs, hl, hs'⟩ := sat_ext (hs.pull hp) hk
  exact h xs hl ac w hkn hs'
theorem Ops.appzG {x y : Operand} {T N E : TypeId} {kn : IntKind} {zs olds : List Value} {sz by_ m k cap : Nat} {a : Option Addr} (hT : elT P T = some E) (hN : iK P N = some kn) (hE : zsb P E = some (zs, sz, by_)) (hs0 : 0 < sz) (hx : ev L x = some (.slice a m cap)) (hy : ev L y = some (.int .i64 (k : Int)))
    (hk : 0 < k) (hc : cap < m + k) (ho : ∀ w, Sat w0 w A → Ro w a olds) (hol : olds.length = m * sz) (hb : (m + k) * by_ ≤ 140737488355328) (hb' : m + k ≤ 70368744177664)
    (h : ∀ b cap', m + k ≤ cap' → Ops P r ops Q w0 n D rest ((t, .slice (some ⟨b, 0, none⟩) (m + k) cap') :: L) (row (some ⟨b, 0, none⟩) cap' E sz (m + k) (olds ++ rep k zs) :: A))
    (hg : gd ops L ⟨some t, .call ⟨.builtin .append, #[x, y], #[T, N]⟩, ty, pos, af, g⟩ = some true := by rfl) (ht : Nat.blt t n = true := by rfl) :
    Ops P r ops Q w0 n D (⟨some t, .call ⟨.builtin .append, #[x, y], #[T, N]⟩, ty, pos, af, g⟩ :: rest) L A :=
  Ops.val (α := {p : Nat × Nat // m + k ≤ p.2}) (v := fun p => .slice (some ⟨p.1.1, 0, none⟩) (m + k) p.1.2) (A' := fun p => row (some ⟨p.1.1, 0, none⟩) p.1.2 E sz (m + k) (olds ++ rep k zs) :: A) hg rfl ht rfl (fun ac w hkn hs => by
    obtain ⟨i, z, hi, hz, hsz, hby, hzs, hzl⟩ := zsb_u hE
    have hro := ho w.drew hs.drew
    have hf := run_first (P := P) (w := w.drew) (sl := m) (sc := cap) hro hol
    have hkb : k * by_ ≤ 281474976710656 := Nat.le_trans (Nat.mul_le_mul_right by_ (show k ≤ m + k by omega)) (by omega)
    have hr := Lib.run_append_grow_zeros (P := P) w T N ty E i z .i64 kn (elT_u hT) (iK_u hN) hi hz a m cap olds (by rw [hsz]; exact hf) k hk (by rw [hsz]; exact hs0) hc (by omega) (by rw [hby]; exact hkb)
      (by rw [hby]; exact growslice_fits hc hb)
    have hge : m + k ≤ grownCap w (m + k) cap E := grownCap_ge _ _ _ _
    refine ⟨⟨(w.heap.size, grownCap w (m + k) cap E), hge⟩, w.drew.alloc (.cells (olds.toArray ++ Builtin.zeroCells z.cells k ++ Builtin.zeroCells z.cells (grownCap w (m + k) cap E - (m + k))) E), by simp only [execOp, resolve, invoke, builtin, hkn.ev hx, hkn.ev hy, List.map_toArray, List.map_cons, List.map_nil, Sem.run_bind, Sem.run_pure, Result.andThen_ok, hr], ?_⟩
    have hzc : ∀ q, (Builtin.zeroCells z.cells q).toList = rep q zs := fun q => by rw [← hzl, ← rep_eq]; rfl
    have hzn : ∀ q, (Builtin.zeroCells z.cells q).size = q * sz := fun q => by rw [← Array.length_toList, hzc, rep_length, ← hzl, Array.length_toList, hzs]
    refine hs.drew.add (Below.alloc (Below.refl _ _) (Nat.le_refl _) _) (S := fun q => q = w.heap.size) ⟨⟨?_, .inr ⟨w.heap.size, _, _, rfl, Nat.zero_le _, heap_alloc_new _ _, hge, grownCap_le_maxLen _ _ _ _ (by simp only [maxLen]; omega), ?_, ?_⟩⟩, fun q => by simp [Value.ownBlock, eq_comm]⟩ (fun q hq => by subst hq; exact Nat.le_refl _)
    · rw [List.length_append, hol, rep_length, ← hzl, Array.length_toList, hzs, Nat.add_mul]
    · simp only [Array.size_append, List.size_toArray, hzn, hol]
      rw [← Nat.add_mul, ← Nat.add_mul]; congr 1; omega
    · have e : (olds ++ rep k zs).length = (m + k) * sz := by rw [List.length_append, hol, rep_length, ← hzl, Array.length_toList, hzs, Nat.add_mul]
      simp only [Array.toList_append, List.toList_toArray, hzc]
      rw [← e, List.take_left]) (fun p => h p.1.1 p.1.2 p.2)
theorem Ops.appzQ {x y : Operand} {T N E : TypeId} {kn : IntKind} {zs olds : List Value} {sz by_ m k q cap : Nat} {a : Option Addr} (hT : elT P T = some E) (hN : iK P N = some kn) (hE : zsb P E = some (zs, sz, by_)) (hs0 : 0 < sz) (hx : ev L x = some (.slice a m cap)) (hy : ev L y = some (.int .i64 (k : Int)))
    (hk : 0 < k) (hc : cap < m + k) (hq : m + k = q) (ho : ∀ w, Sat w0 w A → Ro w a olds) (hol : olds.length = m * sz) (hb : (m + k) * by_ ≤ 140737488355328) (hb' : m + k ≤ 70368744177664)
    (h : ∀ b cap', q ≤ cap' → Ops P r ops Q w0 n D rest ((t, .slice (some ⟨b, 0, none⟩) q cap') :: L) (row (some ⟨b, 0, none⟩) cap' E sz q (olds ++ rep k zs) :: A))
    (hg : gd ops L ⟨some t, .call ⟨.builtin .append, #[x, y], #[T, N]⟩, ty, pos, af, g⟩ = some true := by rfl) (ht : Nat.blt t n = true := by rfl) :
    Ops P r ops Q w0 n D (⟨some t, .call ⟨.builtin .append, #[x, y], #[T, N]⟩, ty, pos, af, g⟩ :: rest) L A := by
  subst hq
  exact Ops.appzG hT hN hE hs0 hx hy hk hc ho hol hb hb' h hg ht
theorem Ops.xt {k : FuncId} {xs : List Operand} {ats : Array TypeId} {vs : List Value} {v : Value} (hx : evs L xs = some vs)
    (hc : ∀ w, Sat w0 w A → (callFunc k vs.toArray).run P w = .ok (.value v) w)
    (h : Ops P r ops Q w0 n D rest ((t, v) :: L) A)
    (hg : gd ops L ⟨some t, .call ⟨.value (.func k), xs.toArray, ats⟩, ty, pos, af, g⟩ = some true := by rfl) (ht : Nat.blt t n = true := by rfl) :
    Ops P r ops Q w0 n D (⟨some t, .call ⟨.value (.func k), xs.toArray, ats⟩, ty, pos, af, g⟩ :: rest) L A :=
  Ops.same hg rfl ht rfl (fun a w hk hs => by
    have e : xs.toArray.map a.eval = vs.toArray := by rw [List.map_toArray, evs_ok hk hx]
    have e2 : a.eval (.func k) = .func (.func k) #[] #[] := rfl
    simp only [execOp, resolve, e, e2, Deferred.ofValue, Sem.run_bind, Sem.run_pure, Result.andThen_ok, invoke]
    simpa using hc w hs) h
theorem sat_shape {w : World} {b cap sz m : Nat} {E : TypeId} {cs : List Value} {R : List Atom} (h : Sat w0 w A) (hp : Pull A (row (some ⟨b, 0, none⟩) cap E sz m cs) R) : w.shape? b = some (E, cap * sz) ∧ ∀ o, w.frozen? ⟨b, o, none⟩ = false := by
  obtain ⟨hlen, hown⟩ := h.own hp
  rcases hown with ⟨h0, _⟩ | ⟨b', cap', cur, hv0, _, hh, h2, h3, h4, h5⟩
  · cases h0
  · cases hv0
    refine ⟨by simp [World.shape?, hh, h4], fun o => by simp [World.frozen?, hh]⟩
theorem sat_apart {w : World} {b b' cap cap' sz sz' m m' : Nat} {E E' : TypeId} {cs cs' : List Value} {R R' : List Atom} (h : Sat w0 w A) (hp : Pull A (row (some ⟨b, 0, none⟩) cap E sz m cs) R) (hq : Pull R (row (some ⟨b', 0, none⟩) cap' E' sz' m' cs') R') : b ≠ b' := by
  obtain ⟨_, T, ⟨S, U, ha, hA, hd, _⟩, _⟩ := h.pull hp
  obtain ⟨S', U', hb, _, _, ht'⟩ := Sats.pull hq hA
  rintro rfl
  exact hd b ((ha.2 b).2 rfl) ((ht' b).2 (.inl ((hb.2 b).2 rfl)))
theorem q_cutA {T : TypeId} {x y : Operand} {m z b o k : Nat} {kd : IntKind} (hz : asz P T = some (m, z)) (hx : ev L x = some (.pointer (some ⟨b, o, none⟩))) (hy : ev L y = some (.int kd (k : Int))) (hk : k ≤ m) :
    Qv P w0 n D L A (.slice T x none (some y) none) (.slice (some ⟨b, o, none⟩) k m) := fun ac w hk' _ _ _ _ _ _ => ⟨by
    unfold asz at hz
    cases hu : P.underlying T with
    | none => rw [hu] at hz; cases hz
    | some d =>
      rw [hu] at hz
      cases d <;> try (cases hz; done)
      rename_i n' e
      obtain ⟨i', hi, he⟩ := Option.map_eq_some_iff.1 hz
      simp only [Prod.mk.injEq] at he
      obtain ⟨rfl, rfl⟩ := he
      have h1 : (0 ≤ (k : Int) ∧ (k : Int) ≤ (n' : Int)) := by omega
      simp [execOp, hk'.ev hx, hk'.ev hy, Instr.sliceAt, run_underlying hu, Instr.sureAddr, Instr.sliceBounds, Instr.sliceBound, asIntOf, h1, hk, sizeOf, typeInfo, hi, add_at], rfl⟩
theorem sat_rowle {w : World} {b cap sz m : Nat} {E : TypeId} {cs : List Value} {R : List Atom} (h : Sat w0 w A) (hp : Pull A (row (some ⟨b, 0, none⟩) cap E sz m cs) R) : m ≤ cap := by
  obtain ⟨hlen, hown⟩ := h.own hp
  rcases hown with ⟨h0, _⟩ | ⟨b', cap', cur, hv0, _, hh, h2, h3, h4, h5⟩
  · cases h0
  · cases hv0; exact h2
theorem Ops.rowle {b cap sz m : Nat} {E : TypeId} {cs : List Value} {R : List Atom} (hp : Pull A (row (some ⟨b, 0, none⟩) cap E sz m cs) R)
    (h : m ≤ cap → Ops P r ops Q w0 n D rest L A) : Ops P r ops Q w0 n D rest L A := fun ac w hkn hs => h (sat_rowle hs hp) ac w hkn hs
end
end Go.Proofs.YtilcdghliigngaaGl
namespace Go.Proofs.Ytilcdghliigngaa
open Go.RowKit Go.Proofs.YtilcdghliigngaaGl Go.Proofs.YtilcdghliigngaaPm
set_option linter.unusedVariables false
set_option linter.unusedSimpArgs false
def insI {α : Type} (xs : List α) (i : Nat) (y : α) : List α := xs.take i ++ [y] ++ xs.drop i
theorem insI_len {α : Type} {xs : List α} {i : Nat} {y : α} (h : i ≤ xs.length) : (insI xs i y).length = xs.length + 1 := by
  simp only [insI, List.length_append, List.length_take, List.length_drop, List.length_cons, List.length_nil]; omega
theorem Ro.mid {w : World} {b o k : Nat} {X Z R : List Value} (h : Ro w (some ⟨b, o, none⟩) (X ++ Z ++ R)) (hk : X.length = k) : Ro w (some ⟨b, o + k, none⟩) Z := fun j u hu => by
  have hj := (List.getElem?_eq_some_iff.1 hu).1
  obtain ⟨b', o', he, hc⟩ := h (k + j) u (by
    rw [List.append_assoc, List.getElem?_append_right (by omega), hk, Nat.add_sub_cancel_left, List.getElem?_append_left hj]; exact hu)
  cases he
  exact ⟨b, o + k, rfl, by rw [Nat.add_assoc]; exact hc⟩
theorem grow3 {X R Y Z : List Value} {o o2 : Nat} (hX : X.length = o) (hY : o + Y.length = o2) (hR : R.length = Y.length + Z.length) :
    ((X ++ R).take o ++ Y ++ (X ++ R).drop (o + Y.length)).take o2 ++ Z ++ ((X ++ R).take o ++ Y ++ (X ++ R).drop (o + Y.length)).drop (o2 + Z.length) = X ++ Y ++ Z := by
  subst hX; subst hY
  have e1 : (X ++ R).take X.length = X := List.take_left
  have e2 : (X ++ R).drop (X.length + Y.length) = R.drop Y.length := by
    rw [← List.drop_drop, List.drop_left]
  rw [e1, e2]
  have e3 : (X ++ Y ++ R.drop Y.length).take (X.length + Y.length) = X ++ Y := by
    rw [← List.length_append]; exact List.take_left
  have e4 : (X ++ Y ++ R.drop Y.length).drop (X.length + Y.length + Z.length) = [] := List.drop_eq_nil_of_le (by simp only [List.length_append, List.length_drop]; omega)
  rw [e3, e4, List.append_nil]
theorem room3 {X Z zs Y : List Value} {o o2 : Nat} (hX : X.length = o) (hY : o + Y.length = o2) (hz : zs.length = Y.length) :
    ((X ++ Z ++ zs).take o2 ++ Z ++ (X ++ Z ++ zs).drop (o2 + Z.length)).take o ++ Y ++ ((X ++ Z ++ zs).take o2 ++ Z ++ (X ++ Z ++ zs).drop (o2 + Z.length)).drop (o + Y.length) = X ++ Y ++ Z := by
  subst hX; subst hY
  have e1 : (X ++ Z ++ zs).drop (X.length + Y.length + Z.length) = [] := List.drop_eq_nil_of_le (by simp only [List.length_append]; omega)
  rw [e1, List.append_nil]
  have hT : ((X ++ Z ++ zs).take (X.length + Y.length)).length = X.length + Y.length := by simp only [List.length_take, List.length_append]; omega
  have e2 : ((X ++ Z ++ zs).take (X.length + Y.length) ++ Z).take X.length = X := by
    rw [List.take_append_of_le_length (by omega), List.take_take, Nat.min_eq_left (by omega), List.append_assoc]; exact List.take_left
  have e3 : ((X ++ Z ++ zs).take (X.length + Y.length) ++ Z).drop (X.length + Y.length) = Z := by
    exact List.drop_left' hT
  rw [e2, e3]
theorem fm_split {α : Type} (f : α → List Value) (xs : List α) (i : Nat) : xs.flatMap f = (xs.take i).flatMap f ++ (xs.drop i).flatMap f := by
  rw [← List.flatMap_append, List.take_append_drop]
theorem insI_fm (xs : List Evt) (i : Nat) (y : Evt) : (insI xs i y).flatMap eEvt = (xs.take i).flatMap eEvt ++ eEvt y ++ (xs.drop i).flatMap eEvt := by
  rw [insI, List.flatMap_append, List.flatMap_append]; simp
theorem tk_len {xs : List Evt} {i : Nat} (h : i ≤ xs.length) : ((xs.take i).flatMap eEvt).length = i * 2 := by
  rw [fm_length eEvt_len, List.length_take, Nat.min_eq_left h]
theorem dr_len {xs : List Evt} {i : Nat} : ((xs.drop i).flatMap eEvt).length = (xs.length - i) * 2 := by
  rw [fm_length eEvt_len, List.length_drop]
theorem ovl_c {w0 w : World} {A R R' : List Atom} {vb rb o cap m lb cb vc vn : Nat} {cs cs' : List Value} (hs : Sat w0 w A) (hp : Pull A (row (some ⟨vb, 0, none⟩) vc 88 2 vn cs) R) (hq : Pull R (row (some ⟨rb, 0, none⟩) cap 88 2 m cs') R') (hc : 0 < cap) (la ca : Nat) :
    (callFunc 88 [.slice (some ⟨vb, 0, none⟩) la ca, .slice (some ⟨rb, o, none⟩) lb cb].toArray).run Try.prog w = .ok (.value (.bool false)) w := by
  obtain ⟨h1, h2⟩ := sat_shape hs hp
  obtain ⟨h3, h4⟩ := sat_shape ((hs.pull hp).drop) hq
  have hz : ∀ w, (Go.sizeOf 88).run Try.prog w = .ok 2 w := fun w => Go.Proofs.YtilcdghliigngaaGl.run_sizeOf sz_88
  rw [run_callFunc_extern Try.func88 (by kernel_rfl) (by kernel_rfl) (by kernel_rfl) (e := Extern.SlicesOverlaps.overlaps #[27, 27] #[4]) (by kernel_rfl),
    show [Value.slice (some ⟨vb, 0, none⟩) la ca, Value.slice (some ⟨rb, o, none⟩) lb cb].toArray = #[.slice (some ⟨vb, 0, none⟩) la ca, .slice (some ⟨rb, o, none⟩) lb cb] from rfl,
    Lib.run_overlaps_apart w 27 4 88 (elT_u el_27) 2 hz ⟨vb, 0, none⟩ ⟨rb, o, none⟩ la ca lb cb (sat_apart hs hp hq) 88 88 (vc * 2) (cap * 2) h1 h3 (by omega) (h2 0) (h2 (vc * 2))]
  rfl
theorem insert_c (a : Option Addr) (cap vb i : Nat) (xs : List Evt) (y : Evt) (w0 w : World) (F : List Atom) (hi : i ≤ xs.length) (hl : xs.length ≤ 1000000) (hs : Sat w0 w (row a cap 88 2 xs.length (xs.flatMap eEvt) :: row (some ⟨vb, 0, none⟩) 1 88 2 1 (eEvt y) :: F)) :
    Calls Try.prog 58 [.slice a xs.length cap, .int .i64 (i : Int), .slice (some ⟨vb, 0, none⟩) 1 1].toArray w fun e w' => ∃ p : Option Addr × Nat, e = .returned (.slice p.1 (insI xs i y).length p.2) ∧ Sat w0 w' (row p.1 p.2 88 2 (insI xs i y).length ((insI xs i y).flatMap eEvt) :: F) := by
  refine fstart Try.func58 rfl rfl hs ?_
  refine Cd.seq ?_
  refine Cd.region ?_
  refine Ops.q (q_asg rfl) ?_
  refine Ops.to rfl ?_
  refine Cd.seq ?_
  refine Cd.region ?_
  refine Ops.q (q_mv rfl) ?_
  refine Ops.q (q_mv rfl) ?_
  refine Ops.q (q_cut (k := i) el_27 sz_88 rfl rfl (by omega)) ?_
  refine Ops.to rfl ?_
  refine Cd.seq ?_
  refine Cd.region ?_
  refine Ops.q (q_mv rfl) ?_
  refine Ops.q (q_len esz_27 rfl) ?_
  refine Ops.q (q_asg rfl) ?_
  refine Ops.to rfl ?_
  refine Cd.seq ?_
  refine Cd.seq ?_
  refine Cd.region ?_
  refine Ops.q (q_mv rfl) ?_
  refine Ops.q (q_cmp rfl rfl (c_neq (by decide))) ?_
  refine Ops.to rfl ?_
  refine Cd.cond_f rfl ?_
  refine Cd.skipTo rfl ?_
  refine Cd.seq ?_
  refine Cd.region ?_
  refine Ops.q (q_mv rfl) ?_
  refine Ops.q (q_len esz_27 rfl) ?_
  refine Ops.q (q_asg rfl) ?_
  refine Ops.to rfl ?_
  refine Cd.seq ?_
  refine Cd.seq ?_
  refine Cd.region ?_
  refine Ops.q (q_mv rfl) ?_
  refine Ops.q (q_mv rfl) ?_
  by_cases he : (i : Int) = (xs.length : Int)
  · refine Ops.q (q_cmp rfl rfl (c_eq he)) ?_
    refine Ops.to rfl ?_
    refine Cd.cond_t rfl ?_
    refine Cd.seq ?_
    refine Cd.region ?_
    refine Ops.q (q_mv rfl) ?_
    refine Ops.q (q_mv rfl) ?_
    refine Ops.app (news := (eEvt y)) el_27 zsb_88 (by decide) rfl rfl (fun _ hs => hs.ownRo (.there .here)) (fun _ hs => (hs.pull (.there .here)).drop) (fun _ _ => .here) rfl (one rfl) (by omega) (by omega) ?_
    intro a1 c2
    refine Ops.q (q_asg rfl) ?_
    refine Ops.to rfl ?_
    refine Cd.rt (fn := Try.f58) [.slice a1 (xs.length + 1) c2] (by with_reducible repeat (first | exact rq_here | apply rq_then | apply rq_block)) rfl ⟨rfl, trivial⟩ ?_
    intro w' hs'
    have hil : i = xs.length := by omega
    refine ⟨(a1, c2), by rw [insI_len hi]; rfl, ?_⟩
    rw [insI_len hi, insI_fm, List.take_of_length_le (show xs.length ≤ i by omega), List.drop_eq_nil_of_le (show xs.length ≤ i by omega), List.flatMap_nil, List.append_nil]
    exact (hs'.pull .here)
  · refine Ops.q (q_cmp rfl rfl (c_neq he)) ?_
    refine Ops.rowpos .here (by omega) ?_
    rintro rb rfl
    refine Ops.rowle .here (fun hle => ?_)
    have htl := tk_len (xs := xs) (i := i) hi
    have hdl := dr_len (xs := xs) (i := i)
    have hll := eEvt_len y
    refine Ops.to rfl ?_
    refine Cd.cond_f rfl ?_
    refine Cd.skipTo rfl ?_
    refine Cd.seq ?_
    refine Cd.seq ?_
    refine Cd.region ?_
    refine Ops.q (q_mv rfl) ?_
    refine Ops.q (q_mv rfl) ?_
    refine Ops.q (q_ar rfl rfl (a_inc (by omega))) ?_
    refine Ops.q (q_mv rfl) ?_
    refine Ops.q (q_cap el_27 rfl) ?_
    by_cases hroom : (cap : Int) < ((xs.length + 1 : Nat) : Int)
    · refine Ops.q (q_cmp rfl rfl (c_gt hroom)) ?_
      refine Ops.to rfl ?_
      refine Cd.cond_t rfl ?_
      refine Cd.seq ?_
      refine Cd.region ?_
      refine Ops.q (q_mv rfl) ?_
      refine Ops.q (q_mv rfl) ?_
      refine Ops.q (q_cutHP (k := i) el_27 sz_88 rfl rfl (by omega)) ?_
      refine Ops.q (q_mv rfl) ?_
      refine Ops.q (q_mv rfl) ?_
      refine Ops.q (q_ar rfl rfl (a_inc (by omega))) ?_
      refine Ops.q (q_mv rfl) ?_
      refine Ops.q (q_ar (v := ((xs.length + 1 - i : Nat) : Int)) rfl rfl ((by rw [a_sub (by omega)]; congr 1; omega))) ?_
      refine Ops.appzQ (m := i) (k := xs.length + 1 - i) (q := xs.length + 1) (olds := ((xs.take i).flatMap eEvt)) el_27 iK_3 zsb_88 (by decide) rfl rfl (by omega) (by omega) (by omega) (fun _ hs => RoL.take (hs.ownRo .here) i) htl (by omega) (by omega) ?_
      intro nb nc hnc
      have hrl : (rep (xs.length + 1 - i) [.int .i64 0, .int .i64 0]).length = (xs.length + 1 - i) * 2 := rep_length _ _
      refine Ops.q (q_asg rfl) ?_
      refine Ops.to rfl ?_
      refine Cd.seq ?_
      refine Cd.region ?_
      refine Ops.q (q_mv rfl) ?_
      refine Ops.q (q_mv rfl) ?_
      refine Ops.q (q_cutP (k := i) el_27 sz_88 rfl rfl (by omega) (by omega)) ?_
      refine Ops.q (q_mv rfl) ?_
      refine Ops.cpy (k := 1) (news := (eEvt y)) (cs' := ((((xs.take i).flatMap eEvt) ++ rep (xs.length + 1 - i) [.int .i64 0, .int .i64 0]).take (0 + i * 2) ++ (eEvt y) ++ (((xs.take i).flatMap eEvt) ++ rep (xs.length + 1 - i) [.int .i64 0, .int .i64 0]).drop (0 + i * 2 + (eEvt y).length))) el_27 sz_88 rfl rfl (by omega) (fun _ hs => hs.ownRo (.there (.there .here))) (rfl) (one rfl) .here (by simp only [List.length_append, List.length_take, List.length_drop, htl, hdl, hll, hrl]; omega) rfl ?_
      refine Ops.to rfl ?_
      refine Cd.seq ?_
      refine Cd.draw rfl (by kernel_rfl) .nil ?_
      intro F3 St4 hP5 hF6 hR7
      refine Dr.q (i := 0) hP5 rfl (by kernel_rfl) (q_mv rfl) ?_
      refine Dr.q (i := 1) hP5 rfl (by kernel_rfl) (q_mv rfl) ?_
      refine Dr.q (i := 2) hP5 rfl (by kernel_rfl) (q_mv rfl) ?_
      refine Dr.q (i := 3) hP5 rfl (by kernel_rfl) (q_ar (v := ((i + 1 : Nat) : Int)) rfl rfl (a_inc (by omega))) ?_
      refine Dr.q (i := 4) hP5 rfl (by kernel_rfl) (q_cutP (k := i + 1) el_27 sz_88 rfl rfl (by omega) (by omega)) ?_
      refine Dr.q (i := 5) hP5 rfl (by kernel_rfl) (q_mv rfl) ?_
      refine Dr.q (i := 6) hP5 rfl (by kernel_rfl) (q_mv rfl) ?_
      refine Dr.q (i := 7) hP5 rfl (by kernel_rfl) (q_cutP (k := i) el_27 sz_88 rfl rfl (by omega) (by omega)) ?_
      refine Dr.e (i := 8) rfl (by kernel_rfl) ?_
      refine Ops.cpy (k := xs.length - i) (news := ((xs.drop i).flatMap eEvt)) (cs' := (((((xs.take i).flatMap eEvt) ++ rep (xs.length + 1 - i) [.int .i64 0, .int .i64 0]).take (0 + i * 2) ++ (eEvt y) ++ (((xs.take i).flatMap eEvt) ++ rep (xs.length + 1 - i) [.int .i64 0, .int .i64 0]).drop (0 + i * 2 + (eEvt y).length)).take (0 + (i + 1) * 2) ++ ((xs.drop i).flatMap eEvt) ++ ((((xs.take i).flatMap eEvt) ++ rep (xs.length + 1 - i) [.int .i64 0, .int .i64 0]).take (0 + i * 2) ++ (eEvt y) ++ (((xs.take i).flatMap eEvt) ++ rep (xs.length + 1 - i) [.int .i64 0, .int .i64 0]).drop (0 + i * 2 + (eEvt y).length)).drop (0 + (i + 1) * 2 + ((xs.drop i).flatMap eEvt).length))) el_27 sz_88 rfl rfl (by omega) (fun _ hs => Ro.mid (X := (xs.take i).flatMap eEvt) (R := []) (by rw [List.append_nil, ← fm_split]; exact hs.ownRo (.there (.there .here))) htl) (hdl) (fm_one eEvt_one _) (.there .here) (by simp only [List.length_append, List.length_take, List.length_drop, htl, hdl, hll, hrl]; omega) rfl ?_
      refine Dr.back (fun _ hs => hF6 .here hs) ?_
      refine Dr.tail 9 (by kernel_rfl) ?_
      refine Ops.sat ?_ (fun _ hs => hR7 .here hs)
      refine Ops.to rfl ?_
      refine Cd.seq ?_
      refine Cd.region ?_
      refine Ops.q (q_mv rfl) ?_
      refine Ops.q (q_asg rfl) ?_
      refine Ops.to rfl ?_
      refine Cd.rt (fn := Try.f58) [.slice (some ⟨nb, 0, none⟩) (xs.length + 1) nc] (by with_reducible repeat (first | exact rq_here | apply rq_then | apply rq_block)) rfl ⟨rfl, trivial⟩ ?_
      intro w' hs'
      refine ⟨(some ⟨nb, 0, none⟩, nc), by rw [insI_len hi]; rfl, ?_⟩
      rw [insI_len hi, insI_fm]
      have h9 := (((hs'.pull .here).pull (.there .here)).drop.pull (.there .here)).drop
      rw [grow3 (by rw [htl]; omega) (by rw [hll]; omega) (by rw [hrl, hll, hdl]; omega)] at h9
      exact h9
    · refine Ops.q (q_cmp rfl rfl (c_ngt (by omega))) ?_
      refine Ops.to rfl ?_
      refine Cd.cond_f rfl ?_
      refine Cd.skipTo rfl ?_
      refine Cd.seq ?_
      refine Cd.region ?_
      refine Ops.q (q_mv rfl) ?_
      refine Ops.q (q_mv rfl) ?_
      refine Ops.q (q_mv rfl) ?_
      refine Ops.q (q_ar rfl rfl (a_inc (by omega))) ?_
      refine Ops.q (q_cutHP (k := (xs.length + 1)) el_27 sz_88 rfl rfl (by omega)) ?_
      refine Ops.q (q_asg rfl) ?_
      refine Ops.to rfl ?_
      refine Cd.seq ?_
      refine Cd.seq ?_
      refine Cd.region ?_
      refine Ops.ext (k := 1) .here (by omega) ?_
      intro zs hzs
      rw [fm_split eEvt xs i]
      refine Ops.q (q_mv rfl) ?_
      refine Ops.q (q_mv rfl) ?_
      refine Ops.q (q_mv rfl) ?_
      refine Ops.q (q_mv rfl) ?_
      refine Ops.q (q_ar (v := ((i + 1 : Nat) : Int)) rfl rfl (a_inc (by omega))) ?_
      refine Ops.q (q_cutP (k := i + 1) el_27 sz_88 rfl rfl (by omega) (by omega)) ?_
      refine Ops.xt rfl (fun w hs => ovl_c hs (.there .here) .here (by omega) _ _) ?_
      refine Ops.q (q_not rfl) ?_
      refine Ops.to rfl ?_
      refine Cd.cond_t rfl ?_
      refine Cd.seq ?_
      refine Cd.draw rfl (by kernel_rfl) .nil ?_
      intro F8 St9 hP10 hF11 hR12
      refine Dr.q (i := 0) hP10 rfl (by kernel_rfl) (q_mv rfl) ?_
      refine Dr.q (i := 1) hP10 rfl (by kernel_rfl) (q_mv rfl) ?_
      refine Dr.q (i := 2) hP10 rfl (by kernel_rfl) (q_mv rfl) ?_
      refine Dr.q (i := 3) hP10 rfl (by kernel_rfl) (q_ar (v := ((i + 1 : Nat) : Int)) rfl rfl (a_inc (by omega))) ?_
      refine Dr.q (i := 4) hP10 rfl (by kernel_rfl) (q_cutP (k := i + 1) el_27 sz_88 rfl rfl (by omega) (by omega)) ?_
      refine Dr.q (i := 5) hP10 rfl (by kernel_rfl) (q_mv rfl) ?_
      refine Dr.q (i := 6) hP10 rfl (by kernel_rfl) (q_mv rfl) ?_
      refine Dr.q (i := 7) hP10 rfl (by kernel_rfl) (q_cutP (k := i) el_27 sz_88 rfl rfl (by omega) (by omega)) ?_
      refine Dr.e (i := 8) rfl (by kernel_rfl) ?_
      refine Ops.cpy (k := xs.length - i) (news := ((xs.drop i).flatMap eEvt)) (cs' := (((xs.take i).flatMap eEvt ++ (xs.drop i).flatMap eEvt ++ zs).take (0 + (i + 1) * 2) ++ ((xs.drop i).flatMap eEvt) ++ ((xs.take i).flatMap eEvt ++ (xs.drop i).flatMap eEvt ++ zs).drop (0 + (i + 1) * 2 + ((xs.drop i).flatMap eEvt).length))) el_27 sz_88 rfl rfl (by omega) (fun _ hs => Ro.mid (X := (xs.take i).flatMap eEvt) (R := zs) (hs.ownRo (.there .here)) htl) (hdl) (fm_one eEvt_one _) (.there .here) (by simp only [List.length_append, List.length_take, List.length_drop, htl, hdl, hll, hzs]; omega) rfl ?_
      refine Dr.back (fun _ hs => hF11 .here hs) ?_
      refine Dr.tail 9 (by kernel_rfl) ?_
      refine Ops.sat ?_ (fun _ hs => hR12 .here hs)
      refine Ops.to rfl ?_
      refine Cd.seq ?_
      refine Cd.region ?_
      refine Ops.q (q_mv rfl) ?_
      refine Ops.q (q_mv rfl) ?_
      refine Ops.q (q_cutP (k := i) el_27 sz_88 rfl rfl (by omega) (by omega)) ?_
      refine Ops.q (q_mv rfl) ?_
      refine Ops.cpy (k := 1) (news := (eEvt y)) (cs' := ((((xs.take i).flatMap eEvt ++ (xs.drop i).flatMap eEvt ++ zs).take (0 + (i + 1) * 2) ++ ((xs.drop i).flatMap eEvt) ++ ((xs.take i).flatMap eEvt ++ (xs.drop i).flatMap eEvt ++ zs).drop (0 + (i + 1) * 2 + ((xs.drop i).flatMap eEvt).length)).take (0 + i * 2) ++ (eEvt y) ++ (((xs.take i).flatMap eEvt ++ (xs.drop i).flatMap eEvt ++ zs).take (0 + (i + 1) * 2) ++ ((xs.drop i).flatMap eEvt) ++ ((xs.take i).flatMap eEvt ++ (xs.drop i).flatMap eEvt ++ zs).drop (0 + (i + 1) * 2 + ((xs.drop i).flatMap eEvt).length)).drop (0 + i * 2 + (eEvt y).length))) el_27 sz_88 rfl rfl (by omega) (fun _ hs => hs.ownRo (.there .here)) (rfl) (one rfl) .here (by simp only [List.length_append, List.length_take, List.length_drop, htl, hdl, hll, hzs]; omega) rfl ?_
      refine Ops.to rfl ?_
      refine Cd.seq ?_
      refine Cd.region ?_
      refine Ops.q (q_mv rfl) ?_
      refine Ops.q (q_asg rfl) ?_
      refine Ops.to rfl ?_
      refine Cd.rt (fn := Try.f58) [.slice (some ⟨rb, 0, none⟩) (xs.length + 1) cap] (by with_reducible repeat (first | exact rq_here | apply rq_then | apply rq_block)) rfl ⟨rfl, trivial⟩ ?_
      intro w' hs'
      refine ⟨((some ⟨rb, 0, none⟩), cap), by rw [insI_len hi]; rfl, ?_⟩
      rw [insI_len hi, insI_fm]
      have h9 := ((hs'.pull .here).pull (.there .here)).drop
      rw [room3 (by rw [htl]; omega) (by rw [hll]; omega) (by rw [hzs, hll])] at h9
      exact h9
end Go.Proofs.Ytilcdghliigngaa
namespace Go.Proofs.Ytilcdghliigngaa
open Go.RowKit Go.Proofs.YtilcdghliigngaaGl Go.Proofs.YtilcdghliigngaaPm
set_option linter.unusedVariables false
set_option linter.unusedSimpArgs false
def symE (n : Nat) (x : Int) : Int := if wi x 0 ((n : Int) - 1) then 0 else 4
def evW (ws : List Int) (k : Nat) : Evt := ⟨3 * (k : Int), ws.getD k 0⟩
def evsW (ws : List Int) (k : Nat) : List Evt := (List.range k).map (evW ws)
def wordP (nx : List (List Int)) (st : Int) (al : Nat) (ws : List Int) : Except Int (List Evt) :=
  if autoE nx st al ≠ 0 then .error (autoE nx st al)
  else if 3000 < ws.length then .error 8
  else if firstE (symE (nx.headD []).length) ws ≠ 0 then .error 4
  else .ok (insI (evsW ws ws.length) (min 1 ws.length) ⟨0, ((nx.headD []).length : Int)⟩)
def RetE (r : Except Int (List Evt)) (w : World) (e : Ending) (w' : World) : Prop :=
  match r with
  | .ok xs => ∃ p : Option Addr × Nat, e = .returned (.tuple #[.slice p.1 xs.length p.2, .int .i64 0]) ∧ Sat w w' [row p.1 p.2 88 2 xs.length (xs.flatMap eEvt)]
  | .error c => e = .returned (.tuple #[.slice none 0 0, .int .i64 c]) ∧ Sat w w' []
theorem evsW_step {ws : List Int} {k : Nat} {x : Int} (h : ws[k]? = some x) : evsW ws (k + 1) = evsW ws k ++ [⟨3 * (k : Int), x⟩] := by
  unfold evsW
  rw [rg_app]
  simp only [evW, getD_at h]
theorem evsW_len (ws : List Int) (k : Nat) : (evsW ws k).length = k := rg_len _ _
theorem symE_4 {n : Nat} {x : Int} (h : ¬ wi x 0 ((n : Int) - 1)) : symE n x = 4 := by unfold symE; rw [if_neg h]
theorem symE_0 {n : Nat} {x : Int} (h : wi x 0 ((n : Int) - 1)) : symE n x = 0 := by unfold symE; rw [if_pos h]
theorem insert_n (a : Option Addr) (cap vb i n : Nat) (xs : List Evt) (y : Evt) (hn : xs.length = n) (w0 w : World) (F : List Atom) (hi : i ≤ n) (hl : n ≤ 1000000) (hs : Sat w0 w (row a cap 88 2 n (xs.flatMap eEvt) :: row (some ⟨vb, 0, none⟩) 1 88 2 1 (eEvt y) :: F)) :
    Calls Try.prog 58 [.slice a n cap, .int .i64 (i : Int), .slice (some ⟨vb, 0, none⟩) 1 1].toArray w fun e w' => ∃ p : Option Addr × Nat, e = .returned (.slice p.1 (insI xs i y).length p.2) ∧ Sat w0 w' (row p.1 p.2 88 2 (insI xs i y).length ((insI xs i y).flatMap eEvt) :: F) := by
  subst hn; exact insert_c a cap vb i xs y w0 w F hi hl hs
theorem word_c (na : Option Addr) (nc : Nat) (ls : List NL) (st : Int) (aa : Option Addr) (al ac : Nat) (wa : Option Addr) (wc : Nat) (ws : List Int) (w : World) (hL : RoLL w na ls) (hW : RoL w wa eInt ws) : Calls Try.prog 18 [.agg [.slice na ls.length nc, .int .i64 st, .slice aa al ac].toArray, .slice wa ws.length wc].toArray w (RetE (wordP (ls.map (·.2)) st al ws) w) := by
  refine fstart Try.func18 rfl rfl (Sat.nil w) ?_
  refine Cd.seq ?_
  refine Cd.region ?_
  refine Ops.box [.slice na ls.length nc, .int .i64 st, .slice aa al ac] rfl rfl ?_
  intro b1
  refine Ops.q (q_asg rfl) ?_
  refine Ops.q (q_asg rfl) ?_
  refine Ops.to rfl ?_
  refine Cd.seq ?_
  refine Cd.seq ?_
  refine Cd.region ?_
  refine Ops.q (q_ldBN [.slice na ls.length nc, .int .i64 st, .slice aa al ac] isA_36 sz_36 rfl .here rfl) ?_
  refine Ops.cp en_47 rfl (fun w hs => acheck_c _ _ ls st _ al _ w (hL.later hs.below)) ?_
  refine Ops.q (q_asg rfl) ?_
  refine Ops.to rfl ?_
  refine Cd.seq ?_
  refine Cd.region ?_
  refine Ops.q (q_mv rfl) ?_
  by_cases h2 : autoE (ls.map (fun l : NL => l.2)) st al = 0
  · refine Ops.q (q_cmp rfl rfl (c_nne h2)) ?_
    have hae := h2
    obtain ⟨hw1, hal, hw3, hrow, hin⟩ := autoE_ok h2
    rw [List.length_map] at hw1 hal
    obtain ⟨l0, hl0⟩ : ∃ x, ls[0]? = some x := ⟨_, List.getElem?_eq_getElem (by unfold wi at hw1; omega)⟩
    have hhd : (ls.map (·.2)).headD [] = l0.2 := by cases ls with | nil => simp at hl0 | cons x xs => simp at hl0; subst hl0; rfl
    rw [hhd] at hw3 hrow
    have hs1 : 1 ≤ ls.length ∧ ls.length ≤ 32 := by unfold wi at hw1; omega
    have hk1 : 1 ≤ l0.2.length ∧ l0.2.length ≤ 16 := by unfold wi at hw3; omega
    obtain ⟨nb, no, rfl⟩ := RoL.pos hL.1 eNL_len hl0
    refine Ops.to rfl ?_
    refine Cd.cond_f rfl ?_
    refine Cd.skipTo rfl ?_
    refine Cd.seq ?_
    refine Cd.region ?_
    refine Ops.q (q_fa fo_36_0 rfl) ?_
    refine Ops.q (q_ldB isA_22 rfl .here rfl) ?_
    refine Ops.q (q_ix (k := 0) esz_22 rfl rfl (by omega)) ?_
    refine Ops.q (q_ldR isA_26 rfl (hL.1.at0 eNL_len hl0 rfl)) ?_
    refine Ops.q (q_len esz_26 rfl) ?_
    refine Ops.q (q_asg rfl) ?_
    refine Ops.to rfl ?_
    refine Cd.seq ?_
    refine Cd.seq ?_
    refine Cd.region ?_
    refine Ops.q (q_mv rfl) ?_
    refine Ops.q (q_len esz_26 rfl) ?_
    by_cases h3 : 3000 < (ws.length : Int)
    · refine Ops.q (q_cmp rfl rfl (c_gt h3)) ?_
      refine Ops.to rfl ?_
      refine Cd.cond_t rfl ?_
      refine Cd.seq ?_
      refine Cd.region ?_
      refine Ops.q (q_asg rfl) ?_
      refine Ops.q (q_asg rfl) ?_
      refine Ops.to rfl ?_
      refine Cd.rt (fn := Try.f18) [.slice none 0 0, .int .i64 8] (by with_reducible repeat (first | exact rq_here | apply rq_then | apply rq_block)) rfl ⟨rfl, rfl, trivial⟩ ?_
      intro w' hs'
      have hM : wordP (ls.map (·.2)) st al ws = (if 3000 < ws.length then .error 8 else if firstE (symE l0.2.length) ws ≠ 0 then .error 4 else .ok (insI (evsW ws ws.length) (min 1 ws.length) ⟨0, (l0.2.length : Int)⟩)) := by unfold wordP; rw [if_neg (by simpa using hae), hhd]
      rw [hM, if_pos (by omega)]
      exact ⟨rfl, hs'.none⟩
    · refine Ops.q (q_cmp rfl rfl (c_ngt (by omega))) ?_
      refine Ops.to rfl ?_
      refine Cd.cond_f rfl ?_
      refine Cd.skipTo rfl ?_
      refine Cd.seq ?_
      refine Cd.region ?_
      refine Ops.q (q_asg rfl) ?_
      refine Ops.to rfl ?_
      refine Cd.seq ?_
      refine Cd.seq ?_
      refine Cd.region ?_
      refine Ops.q (q_mv rfl) ?_
      refine Ops.q (q_len esz_26 rfl) ?_
      refine Ops.q (q_mv rfl) ?_
      refine Ops.to rfl ?_
      refine Cd.block ?_
      refine Cd.lp (σ := Nat × Option Addr × Nat) (fun s => s.1 ≤ ws.length ∧ firstE (symE l0.2.length) (ws.drop s.1) = firstE (symE l0.2.length) ws) (fun s => [(2, .pointer (some ⟨b1, 0, none⟩)), (7, .int .i64 (l0.2.length : Int)), (8, .slice s.2.1 s.1 s.2.2), (24, .slice wa ws.length wc), (25, .int .i64 (ws.length : Int)), (26, .int .i64 (s.1 : Int))]) (fun s => [blk b1 36 [.slice (some ⟨nb, no, none⟩) ls.length nc, .int .i64 st, .slice aa al ac], row s.2.1 s.2.2 88 2 s.1 ((evsW ws s.1).flatMap eEvt)]) (fun s => ws.length - s.1) (0, none, 0) ⟨Nat.zero_le _, rfl⟩ ⟨rfl, rfl, rfl, rfl, rfl, rfl, trivial⟩ (fun _ hs => by have h1 := ((hs.pull .here)).nilRow 88 2; exact h1.pull (.there .here)) ?_
      rintro ⟨k, pa, pc⟩ hI
      dsimp only at hI
      change Cd _ _ _ _ _ _ _ [(2, .pointer (some ⟨b1, 0, none⟩)), (7, .int .i64 (l0.2.length : Int)), (8, .slice pa k pc), (24, .slice wa ws.length wc), (25, .int .i64 (ws.length : Int)), (26, .int .i64 (k : Int))] ([blk b1 36 [.slice (some ⟨nb, no, none⟩) ls.length nc, .int .i64 st, .slice aa al ac], row pa pc 88 2 k ((evsW ws k).flatMap eEvt)])
      have hI1 := hI.1
      refine Cd.seq ?_
      refine Cd.region ?_
      by_cases hk : (k : Int) < (ws.length : Int)
      · refine Ops.q (q_cmp rfl rfl (c_lt hk)) ?_
        obtain ⟨x4, hx5⟩ : ∃ x, ws[k]? = some x := ⟨_, List.getElem?_eq_getElem (by omega)⟩
        obtain ⟨ab6, ao7, rfl⟩ := RoL.pos hW eInt_len hx5
        refine Ops.to rfl ?_
        refine Cd.seq ?_
        refine Cd.cond_t rfl ?_
        refine Cd.skipTo rfl ?_
        refine Cd.seq ?_
        refine Cd.block ?_
        refine Cd.seq ?_
        refine Cd.region ?_
        refine Ops.q (q_mv rfl) ?_
        refine Ops.q (q_ix (k := k) esz_26 rfl rfl (by omega)) ?_
        refine Ops.q (q_ldR isA_3 rfl (hW.at0 eInt_len hx5 rfl)) ?_
        refine Ops.q (q_asg rfl) ?_
        refine Ops.q (q_asg rfl) ?_
        refine Ops.to rfl ?_
        refine Cd.seq ?_
        refine Cd.seq ?_
        refine Cd.region ?_
        refine Ops.q (q_mv rfl) ?_
        refine Ops.q (q_mv rfl) ?_
        refine Ops.q (q_ar (v := (l0.2.length : Int) - 1) rfl rfl (a_sub (by omega))) ?_
        by_cases h8 : wi x4 0 ((l0.2.length : Int) - 1)
        · refine Ops.cp en_57 rfl (fun w hs => dT (in_c _ _ _ w) h8) ?_
          refine Ops.q (q_not rfl) ?_
          refine Ops.to rfl ?_
          refine Cd.cond_f rfl ?_
          refine Cd.skipTo rfl ?_
          refine Cd.region ?_
          refine Ops.q (q_mv rfl) ?_
          refine Ops.q (q_mv rfl) ?_
          refine Ops.q (q_ar rfl rfl (a_mul (by omega))) ?_
          refine Ops.q (q_mv rfl) ?_
          refine Ops.q (q_bld [.int .i64 (3 * (k : Int)), .int .i64 x4] pls_88 zc_88 rfl rfl) ?_
          refine Ops.lit [.int .i64 (3 * (k : Int)), .int .i64 x4] el_27 zsb_88 rfl rfl ⟨by decide, by decide⟩ rfl ?_
          intro b9
          refine Ops.app (news := [.int .i64 (3 * (k : Int)), .int .i64 x4]) el_27 zsb_88 (by decide) rfl rfl (fun _ hs => hs.ownRo .here) (fun _ hs => (hs.pull .here).drop) (fun _ _ => (.there .here)) rfl (one rfl) (by omega) (by omega) ?_
          intro a10 c11
          refine Ops.q (q_asg rfl) ?_
          refine Ops.to rfl ?_
          refine Cd.region ?_
          refine Ops.q (q_ar rfl rfl (a_inc (by omega))) ?_
          refine Ops.q (q_mv rfl) ?_
          refine Ops.rnd ((k + 1, a10, c11)) rfl (by dsimp only; exact (⟨by omega, by rw [← hI.2]; exact (firstE_step hx5 (symE_0 h8)).symm⟩)) (by dsimp only; omega) ⟨rfl, rfl, rfl, rfl, rfl, rfl, trivial⟩ (fun _ hs => by have h1 := ((hs.pull (.there .here)).pull (.there .here)); (try dsimp only); rw [evsW_step hx5, fm_app]; exact h1) 
        · refine Ops.cp en_57 rfl (fun w hs => dF (in_c _ _ _ w) h8) ?_
          refine Ops.q (q_not rfl) ?_
          refine Ops.to rfl ?_
          refine Cd.cond_t rfl ?_
          refine Cd.seq ?_
          refine Cd.region ?_
          refine Ops.q (q_asg rfl) ?_
          refine Ops.q (q_asg rfl) ?_
          refine Ops.to rfl ?_
          refine Cd.rt (fn := Try.f18) [.slice none 0 0, .int .i64 4] (by with_reducible repeat (first | exact rq_here | apply rq_then | apply rq_block)) rfl ⟨rfl, rfl, trivial⟩ ?_
          intro w' hs'
          have hM : wordP (ls.map (·.2)) st al ws = (if 3000 < ws.length then .error 8 else if firstE (symE l0.2.length) ws ≠ 0 then .error 4 else .ok (insI (evsW ws ws.length) (min 1 ws.length) ⟨0, (l0.2.length : Int)⟩)) := by unfold wordP; rw [if_neg (by simpa using hae), hhd]
          have h9 : firstE (symE l0.2.length) ws = 4 := by rw [← hI.2, firstE_stop hx5 (by rw [symE_4 h8]; decide), symE_4 h8]
          rw [hM, if_neg (by omega), h9, if_pos (by decide)]
          exact ⟨rfl, hs'.none⟩
      · refine Ops.q (q_cmp rfl rfl (c_nlt (by omega))) ?_
        refine Ops.to rfl ?_
        refine Cd.seq ?_
        refine Cd.cond_f rfl ?_
        refine Cd.exitTo rfl ?_
        refine Cd.seq ?_
        refine Cd.region ?_
        refine Ops.q (q_mv rfl) ?_
        refine Ops.q (q_mv rfl) ?_
        refine Ops.q (q_len esz_27 rfl) ?_
        refine Ops.q (q_min rfl rfl) ?_
        rw [show min (1 : Int) (k : Int) = ((min 1 k : Nat) : Int) by omega]
        refine Ops.q (q_mv rfl) ?_
        refine Ops.q (q_bld [.int .i64 0, .int .i64 (l0.2.length : Int)] pls_88 zc_88 rfl rfl) ?_
        refine Ops.lit [.int .i64 0, .int .i64 (l0.2.length : Int)] el_27 zsb_88 rfl rfl ⟨by decide, by decide⟩ rfl ?_
        intro b12
        refine Ops.cm (α := Option Addr × Nat) (v := fun p => .slice p.1 (insI (evsW ws k) (min 1 k) (⟨0, (l0.2.length : Int)⟩ : Evt)).length p.2) (A' := fun p => row p.1 p.2 88 2 (insI (evsW ws k) (min 1 k) (⟨0, (l0.2.length : Int)⟩ : Evt)).length ((insI (evsW ws k) (min 1 k) (⟨0, (l0.2.length : Int)⟩ : Evt)).flatMap eEvt) :: [blk b1 36 [.slice (some ⟨nb, no, none⟩) ls.length nc, .int .i64 st, .slice aa al ac]]) en_58 rfl (fun w hs => insert_n pa pc b12 (min 1 k) k (evsW ws k) (⟨0, (l0.2.length : Int)⟩ : Evt) (evsW_len _ _) _ w _ (by omega) (by omega) ((((hs.pull (.there .here)).pull (.there .here)).pull (.there (.there .here))))) ?_
        rintro ⟨ia, ic⟩
        refine Ops.q (q_asg rfl) ?_
        refine Ops.q (q_asg rfl) ?_
        refine Ops.to rfl ?_
        refine Cd.rt (fn := Try.f18) [.slice ia ((insI (evsW ws k) (min 1 k) (⟨0, (l0.2.length : Int)⟩ : Evt)).length) ic, .int .i64 0] (by with_reducible repeat (first | exact rq_here | apply rq_then | apply rq_block)) rfl ⟨rfl, rfl, trivial⟩ ?_
        intro w' hs'
        have hM : wordP (ls.map (·.2)) st al ws = (if 3000 < ws.length then .error 8 else if firstE (symE l0.2.length) ws ≠ 0 then .error 4 else .ok (insI (evsW ws ws.length) (min 1 ws.length) ⟨0, (l0.2.length : Int)⟩)) := by unfold wordP; rw [if_neg (by simpa using hae), hhd]
        have h9 : firstE (symE l0.2.length) ws = 0 := by rw [← hI.2, firstE_end (by omega)]
        rw [hM, if_neg (by omega), h9, if_neg (by decide)]
        have hk : k = ws.length := by omega
        subst hk
        exact ⟨(ia, ic), rfl, hs'.only .here⟩
  · refine Ops.q (q_cmp rfl rfl (c_ne h2)) ?_
    refine Ops.to rfl ?_
    refine Cd.cond_t rfl ?_
    refine Cd.seq ?_
    refine Cd.region ?_
    refine Ops.q (q_mv rfl) ?_
    refine Ops.q (q_asg rfl) ?_
    refine Ops.q (q_asg rfl) ?_
    refine Ops.to rfl ?_
    refine Cd.rt (fn := Try.f18) [.slice none 0 0, .int .i64 (autoE (ls.map (fun l : NL => l.2)) st al)] (by with_reducible repeat (first | exact rq_here | apply rq_then | apply rq_block)) rfl ⟨rfl, rfl, trivial⟩ ?_
    intro w' hs'
    rw [show wordP (ls.map (·.2)) st al ws = .error (autoE (ls.map (·.2)) st al) by unfold wordP; rw [if_pos h2]]
    exact ⟨rfl, hs'.none⟩
end Go.Proofs.Ytilcdghliigngaa
namespace Go.Proofs.Ytilcdghliigngaa
open Go.RowKit Go.Proofs.YtilcdghliigngaaGl Go.Proofs.YtilcdghliigngaaPm
set_option linter.unusedVariables false
set_option linter.unusedSimpArgs false
def okB (n : Nat) (xs : List Int) : Bool := xs.all fun x => decide (wi x 0 ((n : Int) - 1))
theorem okB_app (n : Nat) (xs ys : List Int) : okB n (xs ++ ys) = (okB n xs && okB n ys) := by simp [okB, List.all_append]
theorem okB_first (n : Nat) : ∀ (xs : List Int), firstE (stE n) xs = if okB n xs then 0 else 4
  | [] => rfl
  | x :: xs => by
    have ih := okB_first n xs
    by_cases h : wi x 0 ((n : Int) - 1)
    · have e : stE n x = 0 := by unfold stE; rw [if_pos h]
      have e2 : okB n (x :: xs) = okB n xs := by simp [okB, h]
      rw [e2, ← ih, firstE, if_pos e]
    · have e : stE n x = 4 := by unfold stE; rw [if_neg h]
      have e2 : okB n (x :: xs) = false := by simp [okB, h]
      rw [e2, firstE, if_neg (by rw [e]; decide), e]; rfl
def okS (n : Nat) (st : Int) (nx : List (List Int)) (q : Nat) (xr : List Int) (c : Nat) : Bool := decide (wi st 0 ((n : Int) - 1)) && okB n ((nx.take q).flatten ++ xr.take c)
theorem okS_step {n : Nat} {st : Int} {nx : List (List Int)} {q c : Nat} {xr : List Int} {x : Int} (h : xr[c]? = some x) : okS n st nx q xr (c + 1) = (okS n st nx q xr c && decide (wi x 0 ((n : Int) - 1))) := by
  unfold okS
  rw [List.take_add_one, h, ← List.append_assoc, okB_app, Bool.and_assoc]
  congr 2
  simp [okB]
theorem okS_row {n : Nat} {st : Int} {nx : List (List Int)} {q c : Nat} {xr : List Int} (h : nx[q]? = some xr) (hc : xr.length ≤ c) : okS n st nx (q + 1) [] 0 = okS n st nx q xr c := by
  unfold okS
  rw [List.take_add_one, h, List.take_of_length_le hc]; simp
theorem okS_end {n : Nat} {st : Int} {nx : List (List Int)} {q : Nat} (h : nx.length ≤ q) : firstE (stE n) (nx.flatten ++ [st]) = if okS n st nx q [] 0 then 0 else 4 := by
  rw [okB_first]
  unfold okS
  rw [List.take_of_length_le h, okB_app]
  simp [okB, Bool.and_comm]
theorem rauto_c (na : Option Addr) (nc : Nat) (ls : List NL) (st : Int) (aa : Option Addr) (al ac : Nat) (w : World) (hL : RoLL w na ls) : Calls Try.prog 53 [.agg [.slice na ls.length nc, .int .i64 st, .slice aa al ac].toArray].toArray w fun e w' => e = .returned (.int .i64 (autoE (ls.map (·.2)) st al)) ∧ Sat w w' [] := by
  refine fstart Try.func53 rfl rfl (Sat.nil w) ?_
  refine Cd.seq ?_
  refine Cd.region ?_
  refine Ops.box [.slice na ls.length nc, .int .i64 st, .slice aa al ac] rfl rfl ?_
  intro b1
  refine Ops.q (q_asg rfl) ?_
  refine Ops.to rfl ?_
  refine Cd.seq ?_
  refine Cd.seq ?_
  refine Cd.region ?_
  refine Ops.q (q_fa fo_25_0 rfl) ?_
  refine Ops.q (q_ldB isA_22 rfl .here rfl) ?_
  refine Ops.q (q_len esz_22 rfl) ?_
  by_cases h2 : wi (ls.length : Int) 1 32
  · refine Ops.cp en_59 rfl (fun w hs => dT (rwithin_c _ _ _ w) h2) ?_
    refine Ops.q (q_not rfl) ?_
    refine Ops.to rfl ?_
    refine Cd.cond_f rfl ?_
    refine Cd.skipTo rfl ?_
    refine Cd.seq ?_
    refine Cd.seq ?_
    refine Cd.region ?_
    have hw1 : wi (ls.length : Int) 1 32 := h2
    have hw1' := hw1
    unfold wi at hw1'
    obtain ⟨l0, hl0⟩ : ∃ x, ls[0]? = some x := ⟨_, List.getElem?_eq_getElem (by omega)⟩
    obtain ⟨nb, no, rfl⟩ := RoL.pos hL.1 eNL_len hl0
    have hhd : (ls.map (·.2)).headD [] = l0.2 := by cases ls with | nil => simp at hl0 | cons x xs => simp at hl0; subst hl0; rfl
    refine Ops.q (q_fa fo_25_2 rfl) ?_
    refine Ops.q (q_ldB isA_23 rfl .here rfl) ?_
    refine Ops.q (q_len esz_23 rfl) ?_
    refine Ops.q (q_fa fo_25_0 rfl) ?_
    refine Ops.q (q_ldB isA_22 rfl .here rfl) ?_
    refine Ops.q (q_len esz_22 rfl) ?_
    by_cases hal : (al : Int) = (ls.length : Int)
    · refine Ops.q (q_cmp rfl rfl (c_nne hal)) ?_
      refine Ops.to rfl ?_
      refine Cd.cond_f rfl ?_
      refine Cd.skipTo rfl ?_
      refine Cd.seq ?_
      refine Cd.seq ?_
      refine Cd.region ?_
      refine Ops.q (q_fa fo_25_0 rfl) ?_
      refine Ops.q (q_ldB isA_22 rfl .here rfl) ?_
      refine Ops.q (q_ix (k := 0) esz_22 rfl rfl (by omega)) ?_
      refine Ops.q (q_ldR isA_26 rfl (hL.1.at0 eNL_len hl0 rfl)) ?_
      refine Ops.q (q_len esz_26 rfl) ?_
      by_cases h3 : wi (l0.2.length : Int) 1 16
      · refine Ops.cp en_59 rfl (fun w hs => dT (rwithin_c _ _ _ w) h3) ?_
        refine Ops.q (q_not rfl) ?_
        refine Ops.to rfl ?_
        refine Cd.cond_f rfl ?_
        refine Cd.skipTo rfl ?_
        refine Cd.seq ?_
        refine Cd.seq ?_
        refine Cd.region ?_
        have hw3 : wi (l0.2.length : Int) 1 16 := h3
        have hw3' := hw3
        unfold wi at hw3'
        refine Ops.q (q_asg rfl) ?_
        refine Ops.to rfl ?_
        refine Cd.block ?_
        refine Cd.lp (σ := Nat) (fun s => s ≤ ls.length ∧ ∀ y ∈ ls.take s, y.2.length = l0.2.length) (fun s => [(1, .pointer (some ⟨b1, 0, none⟩)), (3, .int .i64 (s : Int))]) (fun s => [blk b1 25 [.slice (some ⟨nb, no, none⟩) ls.length nc, .int .i64 st, .slice aa al ac]]) (fun s => ls.length - s) 0 ⟨Nat.zero_le _, by simp⟩ ⟨rfl, rfl, trivial⟩ (fun _ hs => hs) ?_
        intro s hI
        have hI1 := hI.1
        refine Cd.seq ?_
        refine Cd.seq ?_
        refine Cd.region ?_
        refine Ops.q (q_mv rfl) ?_
        refine Ops.q (q_fa fo_25_0 rfl) ?_
        refine Ops.q (q_ldB isA_22 rfl .here rfl) ?_
        refine Ops.q (q_len esz_22 rfl) ?_
        by_cases hs0 : (s : Int) < (ls.length : Int)
        · refine Ops.q (q_cmp rfl rfl (c_lt hs0)) ?_
          obtain ⟨x4, hx5⟩ : ∃ x, ls[s]? = some x := ⟨_, List.getElem?_eq_getElem (by omega)⟩
          refine Ops.to rfl ?_
          refine Cd.cond_t rfl ?_
          refine Cd.skipTo rfl ?_
          refine Cd.seq ?_
          refine Cd.block ?_
          refine Cd.seq ?_
          refine Cd.draw rfl (by kernel_rfl) (.cons .here .nil) ?_
          intro F6 St7 hP8 hF9 hR10
          refine Dr.q (i := 0) hP8 rfl (by kernel_rfl) (q_fa fo_25_0 rfl) ?_
          refine Dr.q (i := 1) hP8 rfl (by kernel_rfl) (q_ldB isA_22 rfl .here rfl) ?_
          refine Dr.q (i := 2) hP8 rfl (by kernel_rfl) (q_mv rfl) ?_
          refine Dr.q (i := 3) hP8 rfl (by kernel_rfl) (q_ix (k := s) esz_22 rfl rfl (by omega)) ?_
          refine Dr.q (i := 4) hP8 rfl (by kernel_rfl) (q_ldR isA_26 rfl (hL.1.at0 eNL_len hx5 rfl)) ?_
          refine Dr.q (i := 5) hP8 rfl (by kernel_rfl) (q_len esz_26 rfl) ?_
          refine Dr.q (i := 6) hP8 rfl (by kernel_rfl) (q_fa fo_25_0 rfl) ?_
          refine Dr.q (i := 7) hP8 rfl (by kernel_rfl) (q_ldB isA_22 rfl .here rfl) ?_
          refine Dr.q (i := 8) hP8 rfl (by kernel_rfl) (q_ix (k := 0) esz_22 rfl rfl (by omega)) ?_
          refine Dr.q (i := 9) hP8 rfl (by kernel_rfl) (q_ldR isA_26 rfl (hL.1.at0 eNL_len hl0 rfl)) ?_
          refine Dr.q (i := 10) hP8 rfl (by kernel_rfl) (q_len esz_26 rfl) ?_
          by_cases h11 : (x4.2.length : Int) = (l0.2.length : Int)
          · refine Dr.q (i := 11) hP8 rfl (by kernel_rfl) (q_cmp rfl rfl (c_nne h11)) ?_
            refine Dr.tail 12 (by kernel_rfl) ?_
            refine Ops.sat ?_ (fun _ hs => hR10 .here hs)
            refine Ops.to rfl ?_
            refine Cd.cond_f rfl ?_
            refine Cd.skipTo rfl ?_
            refine Cd.region ?_
            refine Ops.q (q_mv rfl) ?_
            refine Ops.q (q_ar rfl rfl (a_inc (by omega))) ?_
            refine Ops.q (q_asg rfl) ?_
            refine Ops.rnd (s + 1) rfl (⟨by omega, by intro y hy; rw [List.take_add_one, hx5] at hy; rcases List.mem_append.1 hy with hy | hy; exact hI.2 y hy; obtain rfl := List.mem_singleton.1 hy; omega⟩) (by omega) ⟨rfl, rfl, trivial⟩ (fun _ hs => hs) 
          · refine Dr.q (i := 11) hP8 rfl (by kernel_rfl) (q_cmp rfl rfl (c_ne h11)) ?_
            refine Dr.tail 12 (by kernel_rfl) ?_
            refine Ops.sat ?_ (fun _ hs => hR10 .here hs)
            refine Ops.to rfl ?_
            refine Cd.cond_t rfl ?_
            refine Cd.seq ?_
            refine Cd.region ?_
            refine Ops.q (q_asg rfl) ?_
            refine Ops.to rfl ?_
            refine Cd.rt (fn := Try.f53) [.int .i64 13] (by with_reducible repeat (first | exact rq_here | apply rq_then | apply rq_block)) rfl ⟨rfl, trivial⟩ ?_
            intro w' hs'
            exact ⟨by unfold autoE; rw [if_pos (by simpa using hw1), if_pos (by simp only [List.length_map]; omega), hhd, if_pos hw3, if_pos ⟨x4.2, List.mem_map_of_mem (List.mem_iff_getElem?.2 ⟨s, hx5⟩), by omega⟩]; rfl, hs'.none⟩
        · refine Ops.q (q_cmp rfl rfl (c_nlt (by omega))) ?_
          have hrow : ∀ r ∈ ls.map (·.2), r.length = l0.2.length := by intro r hr; obtain ⟨y, hy, rfl⟩ := List.mem_map.1 hr; exact hI.2 y (by rw [List.take_of_length_le (show ls.length ≤ s by omega)]; exact hy)
          refine Ops.to rfl ?_
          refine Cd.cond_f rfl ?_
          refine Cd.exitTo rfl ?_
          refine Cd.seq ?_
          refine Cd.region ?_
          refine Ops.q (q_fa fo_25_1 rfl) ?_
          refine Ops.q (q_ldB isA_3 rfl .here rfl) ?_
          refine Ops.q (q_fa fo_25_0 rfl) ?_
          refine Ops.q (q_ldB isA_22 rfl .here rfl) ?_
          refine Ops.q (q_len esz_22 rfl) ?_
          refine Ops.q (q_ar (v := (ls.length : Int) - 1) rfl rfl (a_sub (by omega))) ?_
          by_cases h12 : wi st 0 ((ls.length : Int) - 1)
          · refine Ops.cp en_59 rfl (fun w hs => dT (rwithin_c _ _ _ w) h12) ?_
            refine Ops.q (q_asg rfl) ?_
            refine Ops.to rfl ?_
            refine Cd.seq ?_
            refine Cd.seq ?_
            refine Cd.region ?_
            refine Ops.q (q_asg rfl) ?_
            refine Ops.to rfl ?_
            refine Cd.block ?_
            refine Cd.lp (σ := Nat × Bool) (fun s => s.1 ≤ ls.length ∧ s.2 = okS ls.length st (ls.map (·.2)) s.1 [] 0) (fun s => [(1, .pointer (some ⟨b1, 0, none⟩)), (4, .bool s.2), (5, .int .i64 (s.1 : Int))]) (fun s => [blk b1 25 [.slice (some ⟨nb, no, none⟩) ls.length nc, .int .i64 st, .slice aa al ac]]) (fun s => ls.length - s.1) (0, true) ⟨Nat.zero_le _, by simp [okS, okB, h12]⟩ ⟨rfl, rfl, rfl, trivial⟩ (fun _ hs => hs) ?_
            rintro ⟨q, b⟩ hI
            dsimp only at hI
            change Cd _ _ _ _ _ _ _ [(1, .pointer (some ⟨b1, 0, none⟩)), (4, .bool b), (5, .int .i64 (q : Int))] ([blk b1 25 [.slice (some ⟨nb, no, none⟩) ls.length nc, .int .i64 st, .slice aa al ac]])
            have hI1 := hI.1
            have hIo := hI
            refine Cd.seq ?_
            refine Cd.seq ?_
            refine Cd.region ?_
            refine Ops.q (q_mv rfl) ?_
            refine Ops.q (q_fa fo_25_0 rfl) ?_
            refine Ops.q (q_ldB isA_22 rfl .here rfl) ?_
            refine Ops.q (q_len esz_22 rfl) ?_
            by_cases hq0 : (q : Int) < (ls.length : Int)
            · refine Ops.q (q_cmp rfl rfl (c_lt hq0)) ?_
              obtain ⟨⟨⟨xa, xc⟩, xr⟩, hx⟩ : ∃ x, ls[q]? = some x := ⟨_, List.getElem?_eq_getElem (by omega)⟩
              have hxq : (ls.map (·.2))[q]? = some xr := by rw [List.getElem?_map, hx]; rfl
              have hxm : xr ∈ ls.map (·.2) := List.mem_iff_getElem?.2 ⟨q, hxq⟩
              have hxl := hrow xr hxm
              have hxe : RoL w xa eInt xr := hL.2 _ (List.mem_iff_getElem?.2 ⟨q, hx⟩)
              obtain ⟨xv, hxv⟩ : ∃ v, xr[0]? = some v := ⟨_, List.getElem?_eq_getElem (by omega)⟩
              obtain ⟨xb, xo, rfl⟩ := RoL.pos hxe eInt_len hxv
              refine Ops.to rfl ?_
              refine Cd.cond_t rfl ?_
              refine Cd.skipTo rfl ?_
              refine Cd.seq ?_
              refine Cd.block ?_
              refine Cd.seq ?_
              refine Cd.region ?_
              refine Ops.q (q_asg rfl) ?_
              refine Ops.to rfl ?_
              refine Cd.block ?_
              refine Cd.lp (σ := Nat × Bool) (fun s => s.1 ≤ xr.length ∧ s.2 = okS ls.length st (ls.map (·.2)) q xr s.1) (fun s => [(1, .pointer (some ⟨b1, 0, none⟩)), (4, .bool s.2), (5, .int .i64 (q : Int)), (6, .int .i64 (s.1 : Int))]) (fun s => [blk b1 25 [.slice (some ⟨nb, no, none⟩) ls.length nc, .int .i64 st, .slice aa al ac]]) (fun s => xr.length - s.1) (0, b) ⟨Nat.zero_le _, by rw [hI.2]; simp [okS]⟩ ⟨rfl, rfl, rfl, rfl, trivial⟩ (fun _ hs => hs) ?_
              rintro ⟨c, b⟩ hI
              dsimp only at hI
              change Cd _ _ _ _ _ _ _ [(1, .pointer (some ⟨b1, 0, none⟩)), (4, .bool b), (5, .int .i64 (q : Int)), (6, .int .i64 (c : Int))] ([blk b1 25 [.slice (some ⟨nb, no, none⟩) ls.length nc, .int .i64 st, .slice aa al ac]])
              have hIc := hI.1
              refine Cd.seq ?_
              refine Cd.seq ?_
              refine Cd.region ?_
              refine Ops.q (q_mv rfl) ?_
              refine Ops.q (q_fa fo_25_0 rfl) ?_
              refine Ops.q (q_ldB isA_22 rfl .here rfl) ?_
              refine Ops.q (q_mv rfl) ?_
              refine Ops.q (q_ix (k := q) esz_22 rfl rfl (by omega)) ?_
              refine Ops.q (q_ldR (v := .slice (some ⟨xb, xo, none⟩) xr.length xc) isA_26 rfl (hL.1.at0 eNL_len hx rfl)) ?_
              refine Ops.q (q_len esz_26 rfl) ?_
              by_cases hc0 : (c : Int) < (xr.length : Int)
              · refine Ops.q (q_cmp rfl rfl (c_lt hc0)) ?_
                obtain ⟨x13, hx14⟩ : ∃ x, xr[c]? = some x := ⟨_, List.getElem?_eq_getElem (by omega)⟩
                refine Ops.to rfl ?_
                refine Cd.cond_t rfl ?_
                refine Cd.skipTo rfl ?_
                refine Cd.seq ?_
                refine Cd.block ?_
                by_cases hb15 : b = true
                · obtain rfl : b = true := by simpa using hb15
                  refine Cd.draw rfl (by kernel_rfl) (.cons .here .nil) ?_
                  intro F16 St17 hP18 hF19 hR20
                  refine Dr.q (i := 0) hP18 rfl (by kernel_rfl) (q_mv rfl) ?_
                  refine Dr.q (i := 1) hP18 rfl (by kernel_rfl) (q_mv rfl) ?_
                  refine Dr.q (i := 2) hP18 rfl (by kernel_rfl) (q_fa fo_25_0 rfl) ?_
                  refine Dr.q (i := 3) hP18 rfl (by kernel_rfl) (q_ldB isA_22 rfl .here rfl) ?_
                  refine Dr.q (i := 4) hP18 rfl (by kernel_rfl) (q_mv rfl) ?_
                  refine Dr.q (i := 5) hP18 rfl (by kernel_rfl) (q_ix (k := q) esz_22 rfl rfl (by omega)) ?_
                  refine Dr.q (i := 6) hP18 rfl (by kernel_rfl) (q_ldR (v := .slice (some ⟨xb, xo, none⟩) xr.length xc) isA_26 rfl (hL.1.at0 eNL_len hx rfl)) ?_
                  refine Dr.q (i := 7) hP18 rfl (by kernel_rfl) (q_mv rfl) ?_
                  refine Dr.q (i := 8) hP18 rfl (by kernel_rfl) (q_ix (k := c) esz_26 rfl rfl (by omega)) ?_
                  refine Dr.q (i := 9) hP18 rfl (by kernel_rfl) (q_ldR isA_3 rfl (hxe.at0 eInt_len hx14 rfl)) ?_
                  refine Dr.q (i := 10) hP18 rfl (by kernel_rfl) (q_fa fo_25_0 rfl) ?_
                  refine Dr.q (i := 11) hP18 rfl (by kernel_rfl) (q_ldB isA_22 rfl .here rfl) ?_
                  refine Dr.q (i := 12) hP18 rfl (by kernel_rfl) (q_len esz_22 rfl) ?_
                  refine Dr.q (i := 13) hP18 rfl (by kernel_rfl) (q_ar (v := (ls.length : Int) - 1) rfl rfl (a_sub (by omega))) ?_
                  refine Dr.e (i := 14) rfl (by kernel_rfl) ?_
                  by_cases h21 : wi x13 0 ((ls.length : Int) - 1)
                  · refine Ops.cp en_59 rfl (fun w hs => dT (rwithin_c _ _ _ w) h21) ?_
                    refine Dr.back (fun _ hs => hF19 .here hs) ?_
                    refine Dr.q (i := 15) hP18 rfl (by kernel_rfl) (q_pickT rfl rfl) ?_
                    refine Dr.tail 16 (by kernel_rfl) ?_
                    refine Ops.sat ?_ (fun _ hs => hR20 .here hs)
                    refine Ops.q (q_asg rfl) ?_
                    refine Ops.to rfl ?_
                    refine Cd.region ?_
                    refine Ops.q (q_mv rfl) ?_
                    refine Ops.q (q_ar rfl rfl (a_inc (by omega))) ?_
                    refine Ops.q (q_asg rfl) ?_
                    refine Ops.rnd ((c + 1, true)) rfl (by dsimp only; exact (⟨by omega, by rw [okS_step hx14]; (first | (rw [← hI.2]; simp_all; done) | (rw [← hI.2]; simp; done))⟩)) (by dsimp only; omega) ⟨rfl, rfl, rfl, rfl, trivial⟩ (fun _ hs => hs) 
                  · refine Ops.cp en_59 rfl (fun w hs => dF (rwithin_c _ _ _ w) h21) ?_
                    refine Dr.back (fun _ hs => hF19 .here hs) ?_
                    refine Dr.q (i := 15) hP18 rfl (by kernel_rfl) (q_pickT rfl rfl) ?_
                    refine Dr.tail 16 (by kernel_rfl) ?_
                    refine Ops.sat ?_ (fun _ hs => hR20 .here hs)
                    refine Ops.q (q_asg rfl) ?_
                    refine Ops.to rfl ?_
                    refine Cd.region ?_
                    refine Ops.q (q_mv rfl) ?_
                    refine Ops.q (q_ar rfl rfl (a_inc (by omega))) ?_
                    refine Ops.q (q_asg rfl) ?_
                    refine Ops.rnd ((c + 1, false)) rfl (by dsimp only; exact (⟨by omega, by rw [okS_step hx14]; (first | (rw [← hI.2]; simp_all; done) | (rw [← hI.2]; simp; done))⟩)) (by dsimp only; omega) ⟨rfl, rfl, rfl, rfl, trivial⟩ (fun _ hs => hs) 
                · obtain rfl : b = false := by simpa using hb15
                  refine Cd.draw rfl (by kernel_rfl) (.cons .here .nil) ?_
                  intro F22 St23 hP24 hF25 hR26
                  refine Dr.q (i := 0) hP24 rfl (by kernel_rfl) (q_mv rfl) ?_
                  refine Dr.q (i := 1) hP24 rfl (by kernel_rfl) (q_mv rfl) ?_
                  refine Dr.sk (i := 2) rfl (by kernel_rfl) ?_
                  refine Dr.sk (i := 3) rfl (by kernel_rfl) ?_
                  refine Dr.sk (i := 4) rfl (by kernel_rfl) ?_
                  refine Dr.sk (i := 5) rfl (by kernel_rfl) ?_
                  refine Dr.sk (i := 6) rfl (by kernel_rfl) ?_
                  refine Dr.sk (i := 7) rfl (by kernel_rfl) ?_
                  refine Dr.sk (i := 8) rfl (by kernel_rfl) ?_
                  refine Dr.sk (i := 9) rfl (by kernel_rfl) ?_
                  refine Dr.sk (i := 10) rfl (by kernel_rfl) ?_
                  refine Dr.sk (i := 11) rfl (by kernel_rfl) ?_
                  refine Dr.sk (i := 12) rfl (by kernel_rfl) ?_
                  refine Dr.sk (i := 13) rfl (by kernel_rfl) ?_
                  refine Dr.sk (i := 14) rfl (by kernel_rfl) ?_
                  refine Dr.q (i := 15) hP24 rfl (by kernel_rfl) (q_pickF rfl rfl) ?_
                  refine Dr.tail 16 (by kernel_rfl) ?_
                  refine Ops.sat ?_ (fun _ hs => hR26 .here hs)
                  refine Ops.q (q_asg rfl) ?_
                  refine Ops.to rfl ?_
                  refine Cd.region ?_
                  refine Ops.q (q_mv rfl) ?_
                  refine Ops.q (q_ar rfl rfl (a_inc (by omega))) ?_
                  refine Ops.q (q_asg rfl) ?_
                  refine Ops.rnd ((c + 1, false)) rfl (by dsimp only; exact (⟨by omega, by rw [okS_step hx14]; (first | (rw [← hI.2]; simp_all; done) | (rw [← hI.2]; simp; done))⟩)) (by dsimp only; omega) ⟨rfl, rfl, rfl, rfl, trivial⟩ (fun _ hs => hs) 
              · refine Ops.q (q_cmp rfl rfl (c_nlt (by omega))) ?_
                refine Ops.to rfl ?_
                refine Cd.cond_f rfl ?_
                refine Cd.exitTo rfl ?_
                refine Cd.region ?_
                refine Ops.q (q_mv rfl) ?_
                refine Ops.q (q_ar rfl rfl (a_inc (by omega))) ?_
                refine Ops.q (q_asg rfl) ?_
                refine Ops.rnd ((q + 1, b)) rfl (by dsimp only; exact (⟨by omega, by rw [okS_row hxq (show xr.length ≤ c by omega)]; exact hI.2⟩)) (by dsimp only; omega) ⟨rfl, rfl, rfl, trivial⟩ (fun _ hs => hs) 
            · refine Ops.q (q_cmp rfl rfl (c_nlt (by omega))) ?_
              refine Ops.to rfl ?_
              refine Cd.cond_f rfl ?_
              refine Cd.exitTo rfl ?_
              refine Cd.seq ?_
              refine Cd.seq ?_
              refine Cd.region ?_
              refine Ops.q (q_mv rfl) ?_
              refine Ops.q (q_not rfl) ?_
              refine Ops.to rfl ?_
              refine Cd.cond rfl (fun h27 => ?_) (fun h27 => ?_)
              · refine Cd.seq ?_
                refine Cd.region ?_
                refine Ops.q (q_asg rfl) ?_
                refine Ops.to rfl ?_
                refine Cd.rt (fn := Try.f53) [.int .i64 4] (by with_reducible repeat (first | exact rq_here | apply rq_then | apply rq_block)) rfl ⟨rfl, trivial⟩ ?_
                intro w' hs'
                have hT : autoE (ls.map (·.2)) st al = firstE (stE ls.length) ((ls.map (·.2)).flatten ++ [st]) := by unfold autoE; rw [if_pos (by simpa using hw1), if_pos (by simp only [List.length_map]; omega), hhd, if_pos hw3, if_neg (by rintro ⟨r, hr, hne⟩; exact hne (hrow r hr)), List.length_map]
                exact ⟨by rw [hT, okS_end (q := q) (by simp only [List.length_map]; omega), ← hI.2]; simp_all [joinV], hs'.none⟩
              · refine Cd.skipTo rfl ?_
                refine Cd.seq ?_
                refine Cd.region ?_
                refine Ops.q (q_asg rfl) ?_
                refine Ops.to rfl ?_
                refine Cd.rt (fn := Try.f53) [.int .i64 0] (by with_reducible repeat (first | exact rq_here | apply rq_then | apply rq_block)) rfl ⟨rfl, trivial⟩ ?_
                intro w' hs'
                have hT : autoE (ls.map (·.2)) st al = firstE (stE ls.length) ((ls.map (·.2)).flatten ++ [st]) := by unfold autoE; rw [if_pos (by simpa using hw1), if_pos (by simp only [List.length_map]; omega), hhd, if_pos hw3, if_neg (by rintro ⟨r, hr, hne⟩; exact hne (hrow r hr)), List.length_map]
                exact ⟨by rw [hT, okS_end (q := q) (by simp only [List.length_map]; omega), ← hI.2]; simp_all [joinV], hs'.none⟩
          · refine Ops.cp en_59 rfl (fun w hs => dF (rwithin_c _ _ _ w) h12) ?_
            refine Ops.q (q_asg rfl) ?_
            refine Ops.to rfl ?_
            refine Cd.seq ?_
            refine Cd.seq ?_
            refine Cd.region ?_
            refine Ops.q (q_asg rfl) ?_
            refine Ops.to rfl ?_
            refine Cd.block ?_
            refine Cd.lp (σ := Nat × Bool) (fun s => s.1 ≤ ls.length ∧ s.2 = okS ls.length st (ls.map (·.2)) s.1 [] 0) (fun s => [(1, .pointer (some ⟨b1, 0, none⟩)), (4, .bool s.2), (5, .int .i64 (s.1 : Int))]) (fun s => [blk b1 25 [.slice (some ⟨nb, no, none⟩) ls.length nc, .int .i64 st, .slice aa al ac]]) (fun s => ls.length - s.1) (0, false) ⟨Nat.zero_le _, by simp [okS, okB, h12]⟩ ⟨rfl, rfl, rfl, trivial⟩ (fun _ hs => hs) ?_
            rintro ⟨q, b⟩ hI
            dsimp only at hI
            change Cd _ _ _ _ _ _ _ [(1, .pointer (some ⟨b1, 0, none⟩)), (4, .bool b), (5, .int .i64 (q : Int))] ([blk b1 25 [.slice (some ⟨nb, no, none⟩) ls.length nc, .int .i64 st, .slice aa al ac]])
            have hI1 := hI.1
            have hIo := hI
            refine Cd.seq ?_
            refine Cd.seq ?_
            refine Cd.region ?_
            refine Ops.q (q_mv rfl) ?_
            refine Ops.q (q_fa fo_25_0 rfl) ?_
            refine Ops.q (q_ldB isA_22 rfl .here rfl) ?_
            refine Ops.q (q_len esz_22 rfl) ?_
            by_cases hq0 : (q : Int) < (ls.length : Int)
            · refine Ops.q (q_cmp rfl rfl (c_lt hq0)) ?_
              obtain ⟨⟨⟨xa, xc⟩, xr⟩, hx⟩ : ∃ x, ls[q]? = some x := ⟨_, List.getElem?_eq_getElem (by omega)⟩
              have hxq : (ls.map (·.2))[q]? = some xr := by rw [List.getElem?_map, hx]; rfl
              have hxm : xr ∈ ls.map (·.2) := List.mem_iff_getElem?.2 ⟨q, hxq⟩
              have hxl := hrow xr hxm
              have hxe : RoL w xa eInt xr := hL.2 _ (List.mem_iff_getElem?.2 ⟨q, hx⟩)
              obtain ⟨xv, hxv⟩ : ∃ v, xr[0]? = some v := ⟨_, List.getElem?_eq_getElem (by omega)⟩
              obtain ⟨xb, xo, rfl⟩ := RoL.pos hxe eInt_len hxv
              refine Ops.to rfl ?_
              refine Cd.cond_t rfl ?_
              refine Cd.skipTo rfl ?_
              refine Cd.seq ?_
              refine Cd.block ?_
              refine Cd.seq ?_
              refine Cd.region ?_
              refine Ops.q (q_asg rfl) ?_
              refine Ops.to rfl ?_
              refine Cd.block ?_
              refine Cd.lp (σ := Nat × Bool) (fun s => s.1 ≤ xr.length ∧ s.2 = okS ls.length st (ls.map (·.2)) q xr s.1) (fun s => [(1, .pointer (some ⟨b1, 0, none⟩)), (4, .bool s.2), (5, .int .i64 (q : Int)), (6, .int .i64 (s.1 : Int))]) (fun s => [blk b1 25 [.slice (some ⟨nb, no, none⟩) ls.length nc, .int .i64 st, .slice aa al ac]]) (fun s => xr.length - s.1) (0, b) ⟨Nat.zero_le _, by rw [hI.2]; simp [okS]⟩ ⟨rfl, rfl, rfl, rfl, trivial⟩ (fun _ hs => hs) ?_
              rintro ⟨c, b⟩ hI
              dsimp only at hI
              change Cd _ _ _ _ _ _ _ [(1, .pointer (some ⟨b1, 0, none⟩)), (4, .bool b), (5, .int .i64 (q : Int)), (6, .int .i64 (c : Int))] ([blk b1 25 [.slice (some ⟨nb, no, none⟩) ls.length nc, .int .i64 st, .slice aa al ac]])
              have hIc := hI.1
              refine Cd.seq ?_
              refine Cd.seq ?_
              refine Cd.region ?_
              refine Ops.q (q_mv rfl) ?_
              refine Ops.q (q_fa fo_25_0 rfl) ?_
              refine Ops.q (q_ldB isA_22 rfl .here rfl) ?_
              refine Ops.q (q_mv rfl) ?_
              refine Ops.q (q_ix (k := q) esz_22 rfl rfl (by omega)) ?_
              refine Ops.q (q_ldR (v := .slice (some ⟨xb, xo, none⟩) xr.length xc) isA_26 rfl (hL.1.at0 eNL_len hx rfl)) ?_
              refine Ops.q (q_len esz_26 rfl) ?_
              by_cases hc0 : (c : Int) < (xr.length : Int)
              · refine Ops.q (q_cmp rfl rfl (c_lt hc0)) ?_
                obtain ⟨x28, hx29⟩ : ∃ x, xr[c]? = some x := ⟨_, List.getElem?_eq_getElem (by omega)⟩
                refine Ops.to rfl ?_
                refine Cd.cond_t rfl ?_
                refine Cd.skipTo rfl ?_
                refine Cd.seq ?_
                refine Cd.block ?_
                by_cases hb30 : b = true
                · obtain rfl : b = true := by simpa using hb30
                  refine Cd.draw rfl (by kernel_rfl) (.cons .here .nil) ?_
                  intro F31 St32 hP33 hF34 hR35
                  refine Dr.q (i := 0) hP33 rfl (by kernel_rfl) (q_mv rfl) ?_
                  refine Dr.q (i := 1) hP33 rfl (by kernel_rfl) (q_mv rfl) ?_
                  refine Dr.q (i := 2) hP33 rfl (by kernel_rfl) (q_fa fo_25_0 rfl) ?_
                  refine Dr.q (i := 3) hP33 rfl (by kernel_rfl) (q_ldB isA_22 rfl .here rfl) ?_
                  refine Dr.q (i := 4) hP33 rfl (by kernel_rfl) (q_mv rfl) ?_
                  refine Dr.q (i := 5) hP33 rfl (by kernel_rfl) (q_ix (k := q) esz_22 rfl rfl (by omega)) ?_
                  refine Dr.q (i := 6) hP33 rfl (by kernel_rfl) (q_ldR (v := .slice (some ⟨xb, xo, none⟩) xr.length xc) isA_26 rfl (hL.1.at0 eNL_len hx rfl)) ?_
                  refine Dr.q (i := 7) hP33 rfl (by kernel_rfl) (q_mv rfl) ?_
                  refine Dr.q (i := 8) hP33 rfl (by kernel_rfl) (q_ix (k := c) esz_26 rfl rfl (by omega)) ?_
                  refine Dr.q (i := 9) hP33 rfl (by kernel_rfl) (q_ldR isA_3 rfl (hxe.at0 eInt_len hx29 rfl)) ?_
                  refine Dr.q (i := 10) hP33 rfl (by kernel_rfl) (q_fa fo_25_0 rfl) ?_
                  refine Dr.q (i := 11) hP33 rfl (by kernel_rfl) (q_ldB isA_22 rfl .here rfl) ?_
                  refine Dr.q (i := 12) hP33 rfl (by kernel_rfl) (q_len esz_22 rfl) ?_
                  refine Dr.q (i := 13) hP33 rfl (by kernel_rfl) (q_ar (v := (ls.length : Int) - 1) rfl rfl (a_sub (by omega))) ?_
                  refine Dr.e (i := 14) rfl (by kernel_rfl) ?_
                  by_cases h36 : wi x28 0 ((ls.length : Int) - 1)
                  · refine Ops.cp en_59 rfl (fun w hs => dT (rwithin_c _ _ _ w) h36) ?_
                    refine Dr.back (fun _ hs => hF34 .here hs) ?_
                    refine Dr.q (i := 15) hP33 rfl (by kernel_rfl) (q_pickT rfl rfl) ?_
                    refine Dr.tail 16 (by kernel_rfl) ?_
                    refine Ops.sat ?_ (fun _ hs => hR35 .here hs)
                    refine Ops.q (q_asg rfl) ?_
                    refine Ops.to rfl ?_
                    refine Cd.region ?_
                    refine Ops.q (q_mv rfl) ?_
                    refine Ops.q (q_ar rfl rfl (a_inc (by omega))) ?_
                    refine Ops.q (q_asg rfl) ?_
                    refine Ops.rnd ((c + 1, true)) rfl (by dsimp only; exact (⟨by omega, by rw [okS_step hx29]; (first | (rw [← hI.2]; simp_all; done) | (rw [← hI.2]; simp; done))⟩)) (by dsimp only; omega) ⟨rfl, rfl, rfl, rfl, trivial⟩ (fun _ hs => hs) 
                  · refine Ops.cp en_59 rfl (fun w hs => dF (rwithin_c _ _ _ w) h36) ?_
                    refine Dr.back (fun _ hs => hF34 .here hs) ?_
                    refine Dr.q (i := 15) hP33 rfl (by kernel_rfl) (q_pickT rfl rfl) ?_
                    refine Dr.tail 16 (by kernel_rfl) ?_
                    refine Ops.sat ?_ (fun _ hs => hR35 .here hs)
                    refine Ops.q (q_asg rfl) ?_
                    refine Ops.to rfl ?_
                    refine Cd.region ?_
                    refine Ops.q (q_mv rfl) ?_
                    refine Ops.q (q_ar rfl rfl (a_inc (by omega))) ?_
                    refine Ops.q (q_asg rfl) ?_
                    refine Ops.rnd ((c + 1, false)) rfl (by dsimp only; exact (⟨by omega, by rw [okS_step hx29]; (first | (rw [← hI.2]; simp_all; done) | (rw [← hI.2]; simp; done))⟩)) (by dsimp only; omega) ⟨rfl, rfl, rfl, rfl, trivial⟩ (fun _ hs => hs) 
                · obtain rfl : b = false := by simpa using hb30
                  refine Cd.draw rfl (by kernel_rfl) (.cons .here .nil) ?_
                  intro F37 St38 hP39 hF40 hR41
                  refine Dr.q (i := 0) hP39 rfl (by kernel_rfl) (q_mv rfl) ?_
                  refine Dr.q (i := 1) hP39 rfl (by kernel_rfl) (q_mv rfl) ?_
                  refine Dr.sk (i := 2) rfl (by kernel_rfl) ?_
                  refine Dr.sk (i := 3) rfl (by kernel_rfl) ?_
                  refine Dr.sk (i := 4) rfl (by kernel_rfl) ?_
                  refine Dr.sk (i := 5) rfl (by kernel_rfl) ?_
                  refine Dr.sk (i := 6) rfl (by kernel_rfl) ?_
                  refine Dr.sk (i := 7) rfl (by kernel_rfl) ?_
                  refine Dr.sk (i := 8) rfl (by kernel_rfl) ?_
                  refine Dr.sk (i := 9) rfl (by kernel_rfl) ?_
                  refine Dr.sk (i := 10) rfl (by kernel_rfl) ?_
                  refine Dr.sk (i := 11) rfl (by kernel_rfl) ?_
                  refine Dr.sk (i := 12) rfl (by kernel_rfl) ?_
                  refine Dr.sk (i := 13) rfl (by kernel_rfl) ?_
                  refine Dr.sk (i := 14) rfl (by kernel_rfl) ?_
                  refine Dr.q (i := 15) hP39 rfl (by kernel_rfl) (q_pickF rfl rfl) ?_
                  refine Dr.tail 16 (by kernel_rfl) ?_
                  refine Ops.sat ?_ (fun _ hs => hR41 .here hs)
                  refine Ops.q (q_asg rfl) ?_
                  refine Ops.to rfl ?_
                  refine Cd.region ?_
                  refine Ops.q (q_mv rfl) ?_
                  refine Ops.q (q_ar rfl rfl (a_inc (by omega))) ?_
                  refine Ops.q (q_asg rfl) ?_
                  refine Ops.rnd ((c + 1, false)) rfl (by dsimp only; exact (⟨by omega, by rw [okS_step hx29]; (first | (rw [← hI.2]; simp_all; done) | (rw [← hI.2]; simp; done))⟩)) (by dsimp only; omega) ⟨rfl, rfl, rfl, rfl, trivial⟩ (fun _ hs => hs) 
              · refine Ops.q (q_cmp rfl rfl (c_nlt (by omega))) ?_
                refine Ops.to rfl ?_
                refine Cd.cond_f rfl ?_
                refine Cd.exitTo rfl ?_
                refine Cd.region ?_
                refine Ops.q (q_mv rfl) ?_
                refine Ops.q (q_ar rfl rfl (a_inc (by omega))) ?_
                refine Ops.q (q_asg rfl) ?_
                refine Ops.rnd ((q + 1, b)) rfl (by dsimp only; exact (⟨by omega, by rw [okS_row hxq (show xr.length ≤ c by omega)]; exact hI.2⟩)) (by dsimp only; omega) ⟨rfl, rfl, rfl, trivial⟩ (fun _ hs => hs) 
            · refine Ops.q (q_cmp rfl rfl (c_nlt (by omega))) ?_
              refine Ops.to rfl ?_
              refine Cd.cond_f rfl ?_
              refine Cd.exitTo rfl ?_
              refine Cd.seq ?_
              refine Cd.seq ?_
              refine Cd.region ?_
              refine Ops.q (q_mv rfl) ?_
              refine Ops.q (q_not rfl) ?_
              refine Ops.to rfl ?_
              refine Cd.cond rfl (fun h42 => ?_) (fun h42 => ?_)
              · refine Cd.seq ?_
                refine Cd.region ?_
                refine Ops.q (q_asg rfl) ?_
                refine Ops.to rfl ?_
                refine Cd.rt (fn := Try.f53) [.int .i64 4] (by with_reducible repeat (first | exact rq_here | apply rq_then | apply rq_block)) rfl ⟨rfl, trivial⟩ ?_
                intro w' hs'
                have hT : autoE (ls.map (·.2)) st al = firstE (stE ls.length) ((ls.map (·.2)).flatten ++ [st]) := by unfold autoE; rw [if_pos (by simpa using hw1), if_pos (by simp only [List.length_map]; omega), hhd, if_pos hw3, if_neg (by rintro ⟨r, hr, hne⟩; exact hne (hrow r hr)), List.length_map]
                exact ⟨by rw [hT, okS_end (q := q) (by simp only [List.length_map]; omega), ← hI.2]; simp_all [joinV], hs'.none⟩
              · refine Cd.skipTo rfl ?_
                refine Cd.seq ?_
                refine Cd.region ?_
                refine Ops.q (q_asg rfl) ?_
                refine Ops.to rfl ?_
                refine Cd.rt (fn := Try.f53) [.int .i64 0] (by with_reducible repeat (first | exact rq_here | apply rq_then | apply rq_block)) rfl ⟨rfl, trivial⟩ ?_
                intro w' hs'
                have hT : autoE (ls.map (·.2)) st al = firstE (stE ls.length) ((ls.map (·.2)).flatten ++ [st]) := by unfold autoE; rw [if_pos (by simpa using hw1), if_pos (by simp only [List.length_map]; omega), hhd, if_pos hw3, if_neg (by rintro ⟨r, hr, hne⟩; exact hne (hrow r hr)), List.length_map]
                exact ⟨by rw [hT, okS_end (q := q) (by simp only [List.length_map]; omega), ← hI.2]; simp_all [joinV], hs'.none⟩
      · refine Ops.cp en_59 rfl (fun w hs => dF (rwithin_c _ _ _ w) h3) ?_
        refine Ops.q (q_not rfl) ?_
        refine Ops.to rfl ?_
        refine Cd.cond_t rfl ?_
        refine Cd.seq ?_
        refine Cd.region ?_
        refine Ops.q (q_asg rfl) ?_
        refine Ops.to rfl ?_
        refine Cd.rt (fn := Try.f53) [.int .i64 3] (by with_reducible repeat (first | exact rq_here | apply rq_then | apply rq_block)) rfl ⟨rfl, trivial⟩ ?_
        intro w' hs'
        exact ⟨by unfold autoE; rw [if_pos (by simpa using hw1), if_pos (by simp only [List.length_map]; omega), hhd, if_neg h3]; rfl, hs'.none⟩
    · refine Ops.q (q_cmp rfl rfl (c_ne hal)) ?_
      refine Ops.to rfl ?_
      refine Cd.cond_t rfl ?_
      refine Cd.seq ?_
      refine Cd.region ?_
      refine Ops.q (q_asg rfl) ?_
      refine Ops.to rfl ?_
      refine Cd.rt (fn := Try.f53) [.int .i64 13] (by with_reducible repeat (first | exact rq_here | apply rq_then | apply rq_block)) rfl ⟨rfl, trivial⟩ ?_
      intro w' hs'
      exact ⟨by unfold autoE; rw [if_pos (by simpa using hw1), if_neg (by simp only [List.length_map]; omega)]; rfl, hs'.none⟩
  · refine Ops.cp en_59 rfl (fun w hs => dF (rwithin_c _ _ _ w) h2) ?_
    refine Ops.q (q_not rfl) ?_
    refine Ops.to rfl ?_
    refine Cd.cond_t rfl ?_
    refine Cd.seq ?_
    refine Cd.region ?_
    refine Ops.q (q_asg rfl) ?_
    refine Ops.to rfl ?_
    refine Cd.rt (fn := Try.f53) [.int .i64 3] (by with_reducible repeat (first | exact rq_here | apply rq_then | apply rq_block)) rfl ⟨rfl, trivial⟩ ?_
    intro w' hs'
    exact ⟨by unfold autoE; rw [if_neg (by simpa using h2)]; rfl, hs'.none⟩
theorem tmod3r (t : Int) : ((t.tmod 3) + 3).tmod 3 = 1 ↔ t % 3 = 1 := by
  have hb := tmod3b t
  rw [Int.tmod_eq_emod_of_nonneg (show 0 ≤ t.tmod 3 + 3 by omega)]
  have h := tmod3 t
  omega
theorem rstates_c (na : Option Addr) (nc : Nat) (ls : List NL) (st : Int) (aa : Option Addr) (al ac : Nat) (ea : Option Addr) (ec : Nat) (evs : List Evt) (w : World) (hL : RoLL w na ls) (hE : RoL w ea eEvt evs) (hel : evs.length ≤ 1000000) : Calls Try.prog 22 [.agg [.slice na ls.length nc, .int .i64 st, .slice aa al ac].toArray, .slice ea evs.length ec].toArray w (RetL (statesP (ls.map (·.2)) st al evs) w) := by
  refine fstart Try.func22 rfl rfl (Sat.nil w) ?_
  refine Cd.seq ?_
  refine Cd.region ?_
  refine Ops.box [.slice na ls.length nc, .int .i64 st, .slice aa al ac] rfl rfl ?_
  intro b1
  refine Ops.q (q_asg rfl) ?_
  refine Ops.q (q_asg rfl) ?_
  refine Ops.to rfl ?_
  refine Cd.seq ?_
  refine Cd.region ?_
  refine Ops.q (q_ldBN [.slice na ls.length nc, .int .i64 st, .slice aa al ac] isA_25 sz_25 rfl .here rfl) ?_
  refine Ops.cp en_53 rfl (fun w hs => rauto_c _ _ ls st _ al _ w (hL.later hs.below)) ?_
  refine Ops.q (q_asg rfl) ?_
  refine Ops.to rfl ?_
  refine Cd.seq ?_
  refine Cd.seq ?_
  refine Cd.region ?_
  refine Ops.q (q_mv rfl) ?_
  by_cases h2 : autoE (ls.map (fun l : NL => l.2)) st al = 0
  · refine Ops.q (q_cmp rfl rfl (c_nne h2)) ?_
    have hao := autoE_ok h2
    rw [List.length_map] at hao
    have hw1 := hao.1
    unfold wi at hw1
    refine Ops.to rfl ?_
    refine Cd.cond_f rfl ?_
    refine Cd.skipTo rfl ?_
    refine Cd.seq ?_
    refine Cd.region ?_
    refine Ops.q (q_asg rfl) ?_
    refine Ops.to rfl ?_
    refine Cd.seq ?_
    refine Cd.seq ?_
    refine Cd.region ?_
    refine Ops.q (q_asg rfl) ?_
    refine Ops.to rfl ?_
    refine Cd.block ?_
    refine Cd.lp (σ := Nat × Option Addr × Nat) (fun s => s.1 ≤ evs.length) (fun s => [(1, .slice ea evs.length ec), (2, .pointer (some ⟨b1, 0, none⟩)), (7, .slice s.2.1 ((stF ls.length (evs.take s.1)).length) s.2.2), (8, .int .i64 (s.1 : Int))]) (fun s => [blk b1 25 [.slice na ls.length nc, .int .i64 st, .slice aa al ac], row s.2.1 s.2.2 3 1 ((stF ls.length (evs.take s.1)).length) ((stF ls.length (evs.take s.1)).flatMap eInt)]) (fun s => evs.length - s.1) (0, none, 0) (Nat.zero_le _) ⟨rfl, rfl, rfl, rfl, trivial⟩ (fun _ hs => by have h1 := ((hs.pull .here)).nilRow 3 1; exact h1.pull (.there .here)) ?_
    rintro ⟨k, pa, pc⟩ hI
    dsimp only at hI
    change Cd _ _ _ _ _ _ _ [(1, .slice ea evs.length ec), (2, .pointer (some ⟨b1, 0, none⟩)), (7, .slice pa ((stF ls.length (evs.take k)).length) pc), (8, .int .i64 (k : Int))] ([blk b1 25 [.slice na ls.length nc, .int .i64 st, .slice aa al ac], row pa pc 3 1 ((stF ls.length (evs.take k)).length) ((stF ls.length (evs.take k)).flatMap eInt)])
    refine Cd.seq ?_
    refine Cd.seq ?_
    refine Cd.region ?_
    refine Ops.q (q_mv rfl) ?_
    refine Ops.q (q_mv rfl) ?_
    refine Ops.q (q_len esz_27 rfl) ?_
    by_cases hk : (k : Int) < (evs.length : Int)
    · refine Ops.q (q_cmp rfl rfl (c_lt hk)) ?_
      obtain ⟨x3, hx4⟩ : ∃ x, evs[k]? = some x := ⟨_, List.getElem?_eq_getElem (by omega)⟩
      obtain ⟨ab5, ao6, rfl⟩ := RoL.pos hE eEvt_len hx4
      have hfl := stF_len ls.length (evs.take k)
      rw [List.length_take] at hfl
      have htm := tmod3b x3.tick
      refine Ops.to rfl ?_
      refine Cd.cond_t rfl ?_
      refine Cd.skipTo rfl ?_
      refine Cd.seq ?_
      refine Cd.block ?_
      refine Cd.seq ?_
      refine Cd.draw rfl (by kernel_rfl) (.cons .here .nil) ?_
      intro F7 St8 hP9 hF10 hR11
      refine Dr.q (i := 0) hP9 rfl (by kernel_rfl) (q_mv rfl) ?_
      refine Dr.q (i := 1) hP9 rfl (by kernel_rfl) (q_mv rfl) ?_
      refine Dr.q (i := 2) hP9 rfl (by kernel_rfl) (q_ix (k := k) esz_27 rfl rfl (by omega)) ?_
      refine Dr.q (i := 3) hP9 rfl (by kernel_rfl) (q_fa fo_88_1 rfl) ?_
      refine Dr.q (i := 4) hP9 rfl (by kernel_rfl) (q_ldR isA_3 rfl (hE.at eEvt_len hx4 rfl)) ?_
      refine Dr.q (i := 5) hP9 rfl (by kernel_rfl) (q_fa fo_25_0 rfl) ?_
      refine Dr.q (i := 6) hP9 rfl (by kernel_rfl) (q_ldB isA_22 rfl .here rfl) ?_
      refine Dr.q (i := 7) hP9 rfl (by kernel_rfl) (q_len esz_22 rfl) ?_
      refine Dr.q (i := 8) hP9 rfl (by kernel_rfl) (q_ar (v := (ls.length : Int) - 1) rfl rfl (a_sub (by omega))) ?_
      refine Dr.e (i := 9) rfl (by kernel_rfl) ?_
      by_cases h12 : wi x3.id 0 ((ls.length : Int) - 1)
      · refine Ops.cp en_59 rfl (fun w hs => dT (rwithin_c _ _ _ w) h12) ?_
        refine Dr.back (fun _ hs => hF10 .here hs) ?_
        refine Dr.q (i := 10) hP9 rfl (by kernel_rfl) (q_mv rfl) ?_
        refine Dr.q (i := 11) hP9 rfl (by kernel_rfl) (q_mv rfl) ?_
        refine Dr.q (i := 12) hP9 rfl (by kernel_rfl) (q_mv rfl) ?_
        refine Dr.q (i := 13) hP9 rfl (by kernel_rfl) (q_ix (k := k) esz_27 rfl rfl (by omega)) ?_
        refine Dr.q (i := 14) hP9 rfl (by kernel_rfl) (q_fa fo_88_0 rfl) ?_
        refine Dr.q (i := 15) hP9 rfl (by kernel_rfl) (q_ldR isA_3 rfl (hE.at eEvt_len hx4 rfl)) ?_
        refine Dr.q (i := 16) hP9 rfl (by kernel_rfl) (q_ar (v := (x3.tick).tmod 3) rfl rfl (a_remT (by decide))) ?_
        refine Dr.q (i := 17) hP9 rfl (by kernel_rfl) (q_ar (v := ((x3.tick).tmod 3) + 3) rfl rfl (a_add (by omega))) ?_
        refine Dr.q (i := 18) hP9 rfl (by kernel_rfl) (q_ar (v := (((x3.tick).tmod 3) + 3).tmod 3) rfl rfl (a_remT (by decide))) ?_
        by_cases h13 : (((x3.tick).tmod 3) + 3).tmod 3 = 1
        · refine Dr.q (i := 19) hP9 rfl (by kernel_rfl) (q_cmp rfl rfl (c_eq h13)) ?_
          refine Dr.q (i := 20) hP9 rfl (by kernel_rfl) (q_pickT rfl rfl) ?_
          refine Dr.tail 21 (by kernel_rfl) ?_
          refine Ops.sat ?_ (fun _ hs => hR11 .here hs)
          refine Ops.to rfl ?_
          refine Cd.cond_t rfl ?_
          refine Cd.region ?_
          refine Ops.q (q_mv rfl) ?_
          refine Ops.q (q_mv rfl) ?_
          refine Ops.q (q_mv rfl) ?_
          refine Ops.q (q_ix (k := k) esz_27 rfl rfl (by omega)) ?_
          refine Ops.q (q_fa fo_88_1 rfl) ?_
          refine Ops.q (q_ldR isA_3 rfl (hE.at eEvt_len hx4 rfl)) ?_
          refine Ops.lit [.int .i64 x3.id] el_26 zsb_3 rfl rfl ⟨by decide, by decide⟩ rfl ?_
          intro b14
          refine Ops.app (news := [.int .i64 x3.id]) el_26 zsb_3 (by decide) rfl rfl (fun _ hs => hs.ownRo .here) (fun _ hs => (hs.pull .here).drop) (fun _ _ => (.there .here)) rfl (one rfl) (by omega) (by omega) ?_
          intro a15 c16
          refine Ops.q (q_asg rfl) ?_
          refine Ops.to rfl ?_
          refine Cd.region ?_
          refine Ops.q (q_mv rfl) ?_
          refine Ops.q (q_ar rfl rfl (a_inc (by omega))) ?_
          refine Ops.q (q_asg rfl) ?_
          refine Ops.rnd ((k + 1, a15, c16)) rfl (by dsimp only; exact (by omega)) (by dsimp only; omega) ⟨rfl, rfl, (by (try dsimp only); rw [stF_app hx4, if_pos (by unfold stOk; refine ⟨h12, ?_⟩; rw [← tmod3r]; simp_all), List.length_append]; rfl), rfl, trivial⟩ (fun _ hs => by have h1 := ((hs.pull (.there .here)).pull (.there .here)); (try dsimp only); rw [stF_app hx4, if_pos (by unfold stOk; refine ⟨h12, ?_⟩; rw [← tmod3r]; simp_all), fm_app, List.length_append]; exact h1) 
        · refine Dr.q (i := 19) hP9 rfl (by kernel_rfl) (q_cmp rfl rfl (c_neq h13)) ?_
          refine Dr.q (i := 20) hP9 rfl (by kernel_rfl) (q_pickT rfl rfl) ?_
          refine Dr.tail 21 (by kernel_rfl) ?_
          refine Ops.sat ?_ (fun _ hs => hR11 .here hs)
          refine Ops.to rfl ?_
          refine Cd.cond_f rfl ?_
          refine Cd.skipTo rfl ?_
          refine Cd.region ?_
          refine Ops.q (q_mv rfl) ?_
          refine Ops.q (q_ar rfl rfl (a_inc (by omega))) ?_
          refine Ops.q (q_asg rfl) ?_
          refine Ops.rnd ((k + 1, pa, pc)) rfl (by dsimp only; exact (by omega)) (by dsimp only; omega) ⟨rfl, rfl, (by (try dsimp only); rw [stF_app hx4, if_neg (by unfold stOk; rw [← tmod3r]; simp_all), List.append_nil]; rfl), rfl, trivial⟩ (fun _ hs => by have h1 := ((hs.pull (.there .here)).pull (.there .here)); (try dsimp only); rw [stF_app hx4, if_neg (by unfold stOk; rw [← tmod3r]; simp_all), List.append_nil]; exact h1) 
      · refine Ops.cp en_59 rfl (fun w hs => dF (rwithin_c _ _ _ w) h12) ?_
        refine Dr.back (fun _ hs => hF10 .here hs) ?_
        refine Dr.q (i := 10) hP9 rfl (by kernel_rfl) (q_mv rfl) ?_
        refine Dr.sk (i := 11) rfl (by kernel_rfl) ?_
        refine Dr.sk (i := 12) rfl (by kernel_rfl) ?_
        refine Dr.sk (i := 13) rfl (by kernel_rfl) ?_
        refine Dr.sk (i := 14) rfl (by kernel_rfl) ?_
        refine Dr.sk (i := 15) rfl (by kernel_rfl) ?_
        refine Dr.sk (i := 16) rfl (by kernel_rfl) ?_
        refine Dr.sk (i := 17) rfl (by kernel_rfl) ?_
        refine Dr.sk (i := 18) rfl (by kernel_rfl) ?_
        refine Dr.sk (i := 19) rfl (by kernel_rfl) ?_
        refine Dr.q (i := 20) hP9 rfl (by kernel_rfl) (q_pickF rfl rfl) ?_
        refine Dr.tail 21 (by kernel_rfl) ?_
        refine Ops.sat ?_ (fun _ hs => hR11 .here hs)
        refine Ops.to rfl ?_
        refine Cd.cond_f rfl ?_
        refine Cd.skipTo rfl ?_
        refine Cd.region ?_
        refine Ops.q (q_mv rfl) ?_
        refine Ops.q (q_ar rfl rfl (a_inc (by omega))) ?_
        refine Ops.q (q_asg rfl) ?_
        refine Ops.rnd ((k + 1, pa, pc)) rfl (by dsimp only; exact (by omega)) (by dsimp only; omega) ⟨rfl, rfl, (by (try dsimp only); rw [stF_app hx4, if_neg (by unfold stOk; rw [← tmod3r]; simp_all), List.append_nil]; rfl), rfl, trivial⟩ (fun _ hs => by have h1 := ((hs.pull (.there .here)).pull (.there .here)); (try dsimp only); rw [stF_app hx4, if_neg (by unfold stOk; rw [← tmod3r]; simp_all), List.append_nil]; exact h1) 
    · refine Ops.q (q_cmp rfl rfl (c_nlt (by omega))) ?_
      refine Ops.to rfl ?_
      refine Cd.cond_f rfl ?_
      refine Cd.exitTo rfl ?_
      refine Cd.seq ?_
      refine Cd.region ?_
      refine Ops.q (q_mv rfl) ?_
      refine Ops.q (q_asg rfl) ?_
      refine Ops.q (q_asg rfl) ?_
      refine Ops.to rfl ?_
      refine Cd.rt (fn := Try.f22) [.slice pa ((stF ls.length (evs.take k)).length) pc, .int .i64 0] (by with_reducible repeat (first | exact rq_here | apply rq_then | apply rq_block)) rfl ⟨rfl, rfl, trivial⟩ ?_
      intro w' hs'
      rw [List.take_of_length_le (show evs.length ≤ k by omega)] at hs'
      rw [show statesP (ls.map (·.2)) st al evs = .ok (stF ls.length evs) by unfold statesP; rw [if_neg (by simpa using h2), List.length_map]]
      exact ⟨(pa, pc), by rw [List.take_of_length_le (show evs.length ≤ k by omega)]; rfl, hs'.only (.there .here)⟩
  · refine Ops.q (q_cmp rfl rfl (c_ne h2)) ?_
    refine Ops.to rfl ?_
    refine Cd.cond_t rfl ?_
    refine Cd.seq ?_
    refine Cd.region ?_
    refine Ops.q (q_mv rfl) ?_
    refine Ops.q (q_asg rfl) ?_
    refine Ops.q (q_asg rfl) ?_
    refine Ops.to rfl ?_
    refine Cd.rt (fn := Try.f22) [.slice none 0 0, .int .i64 (autoE (ls.map (fun l : NL => l.2)) st al)] (by with_reducible repeat (first | exact rq_here | apply rq_then | apply rq_block)) rfl ⟨rfl, rfl, trivial⟩ ?_
    intro w' hs'
    rw [show statesP (ls.map (·.2)) st al evs = .error (autoE (ls.map (·.2)) st al) by unfold statesP; rw [if_pos h2]]
    exact ⟨rfl, hs'.none⟩
def refW (ws : List Int) (y : Evt) (k : Nat) : List Evt := if k = 0 then [] else insI (evsW ws k) 1 y
theorem refW_len (ws : List Int) (y : Evt) (k : Nat) : (refW ws y k).length = if k = 0 then 0 else k + 1 := by
  unfold refW
  split
  · rfl
  · rw [insI_len (by rw [evsW_len]; omega), evsW_len]
theorem refW_one {ws : List Int} {y : Evt} {x : Int} (h : ws[0]? = some x) : refW ws y 1 = (refW ws y 0 ++ [⟨3 * ((0 : Nat) : Int), x⟩]) ++ [y] := by
  unfold refW
  rw [if_neg (by decide), if_pos rfl, evsW_step h]; rfl
theorem refW_step {ws : List Int} {y : Evt} {k : Nat} {x : Int} (hk : ¬ k = 0) (h : ws[k]? = some x) : refW ws y (k + 1) = refW ws y k ++ [⟨3 * (k : Int), x⟩] := by
  unfold refW
  rw [if_neg (by omega), if_neg hk, evsW_step h]
  unfold insI
  have hl := evsW_len ws k
  rw [List.take_append_of_le_length (by omega), List.drop_append_of_le_length (by omega)]
  simp
theorem refW_end {ws : List Int} {y : Evt} (h : ¬ ws.length = 0) : refW ws y ws.length = insI (evsW ws ws.length) (min 1 ws.length) y := by
  unfold refW
  rw [if_neg h, Nat.min_eq_left (by omega)]
theorem rword_c (na : Option Addr) (nc : Nat) (ls : List NL) (st : Int) (aa : Option Addr) (al ac : Nat) (wa : Option Addr) (wc : Nat) (ws : List Int) (w : World) (hL : RoLL w na ls) (hW : RoL w wa eInt ws) : Calls Try.prog 19 [.agg [.slice na ls.length nc, .int .i64 st, .slice aa al ac].toArray, .slice wa ws.length wc].toArray w (RetE (wordP (ls.map (·.2)) st al ws) w) := by
  refine fstart Try.func19 rfl rfl (Sat.nil w) ?_
  refine Cd.seq ?_
  refine Cd.region ?_
  refine Ops.box [.slice na ls.length nc, .int .i64 st, .slice aa al ac] rfl rfl ?_
  intro b1
  refine Ops.q (q_asg rfl) ?_
  refine Ops.q (q_asg rfl) ?_
  refine Ops.to rfl ?_
  refine Cd.seq ?_
  refine Cd.region ?_
  refine Ops.q (q_ldBN [.slice na ls.length nc, .int .i64 st, .slice aa al ac] isA_25 sz_25 rfl .here rfl) ?_
  refine Ops.cp en_53 rfl (fun w hs => rauto_c _ _ ls st _ al _ w (hL.later hs.below)) ?_
  refine Ops.q (q_asg rfl) ?_
  refine Ops.to rfl ?_
  refine Cd.seq ?_
  refine Cd.seq ?_
  refine Cd.region ?_
  refine Ops.q (q_mv rfl) ?_
  by_cases h2 : autoE (ls.map (fun l : NL => l.2)) st al = 0
  · refine Ops.q (q_cmp rfl rfl (c_nne h2)) ?_
    have hae := h2
    obtain ⟨hw1, hal, hw3, hrow, hin⟩ := autoE_ok h2
    rw [List.length_map] at hw1 hal
    obtain ⟨l0, hl0⟩ : ∃ x, ls[0]? = some x := ⟨_, List.getElem?_eq_getElem (by unfold wi at hw1; omega)⟩
    have hhd : (ls.map (·.2)).headD [] = l0.2 := by cases ls with | nil => simp at hl0 | cons x xs => simp at hl0; subst hl0; rfl
    rw [hhd] at hw3 hrow
    have hs1 : 1 ≤ ls.length ∧ ls.length ≤ 32 := by unfold wi at hw1; omega
    have hk1 : 1 ≤ l0.2.length ∧ l0.2.length ≤ 16 := by unfold wi at hw3; omega
    obtain ⟨nb, no, rfl⟩ := RoL.pos hL.1 eNL_len hl0
    refine Ops.to rfl ?_
    refine Cd.cond_f rfl ?_
    refine Cd.skipTo rfl ?_
    refine Cd.seq ?_
    refine Cd.region ?_
    refine Ops.q (q_fa fo_25_0 rfl) ?_
    refine Ops.q (q_ldB isA_22 rfl .here rfl) ?_
    refine Ops.q (q_ix (k := 0) esz_22 rfl rfl (by omega)) ?_
    refine Ops.q (q_ldR isA_26 rfl (hL.1.at0 eNL_len hl0 rfl)) ?_
    refine Ops.q (q_len esz_26 rfl) ?_
    refine Ops.q (q_asg rfl) ?_
    refine Ops.to rfl ?_
    refine Cd.seq ?_
    refine Cd.seq ?_
    refine Cd.region ?_
    refine Ops.q (q_mv rfl) ?_
    refine Ops.q (q_len esz_26 rfl) ?_
    by_cases h3 : 3000 < (ws.length : Int)
    · refine Ops.q (q_cmp rfl rfl (c_gt h3)) ?_
      refine Ops.to rfl ?_
      refine Cd.cond_t rfl ?_
      refine Cd.seq ?_
      refine Cd.region ?_
      refine Ops.q (q_asg rfl) ?_
      refine Ops.q (q_asg rfl) ?_
      refine Ops.to rfl ?_
      refine Cd.rt (fn := Try.f19) [.slice none 0 0, .int .i64 8] (by with_reducible repeat (first | exact rq_here | apply rq_then | apply rq_block)) rfl ⟨rfl, rfl, trivial⟩ ?_
      intro w' hs'
      have hM : wordP (ls.map (·.2)) st al ws = (if 3000 < ws.length then .error 8 else if firstE (symE l0.2.length) ws ≠ 0 then .error 4 else .ok (insI (evsW ws ws.length) (min 1 ws.length) ⟨0, (l0.2.length : Int)⟩)) := by unfold wordP; rw [if_neg (by simpa using hae), hhd]
      rw [hM, if_pos (by omega)]
      exact ⟨rfl, hs'.none⟩
    · refine Ops.q (q_cmp rfl rfl (c_ngt (by omega))) ?_
      refine Ops.to rfl ?_
      refine Cd.cond_f rfl ?_
      refine Cd.skipTo rfl ?_
      refine Cd.seq ?_
      refine Cd.region ?_
      refine Ops.q (q_asg rfl) ?_
      refine Ops.to rfl ?_
      refine Cd.seq ?_
      refine Cd.seq ?_
      refine Cd.region ?_
      refine Ops.q (q_asg rfl) ?_
      refine Ops.to rfl ?_
      refine Cd.block ?_
      refine Cd.lp (σ := Nat × Option Addr × Nat) (fun s => s.1 ≤ ws.length ∧ firstE (symE l0.2.length) (ws.drop s.1) = firstE (symE l0.2.length) ws) (fun s => [(1, .slice wa ws.length wc), (2, .pointer (some ⟨b1, 0, none⟩)), (7, .int .i64 (l0.2.length : Int)), (8, .slice s.2.1 ((refW ws (⟨0, (l0.2.length : Int)⟩ : Evt) s.1).length) s.2.2), (9, .int .i64 (s.1 : Int))]) (fun s => [blk b1 25 [.slice (some ⟨nb, no, none⟩) ls.length nc, .int .i64 st, .slice aa al ac], row s.2.1 s.2.2 88 2 ((refW ws (⟨0, (l0.2.length : Int)⟩ : Evt) s.1).length) ((refW ws (⟨0, (l0.2.length : Int)⟩ : Evt) s.1).flatMap eEvt)]) (fun s => ws.length - s.1) (0, none, 0) ⟨Nat.zero_le _, rfl⟩ ⟨rfl, rfl, rfl, rfl, rfl, trivial⟩ (fun _ hs => by have h1 := ((hs.pull .here)).nilRow 88 2; exact h1.pull (.there .here)) ?_
      rintro ⟨k, pa, pc⟩ hI
      dsimp only at hI
      change Cd _ _ _ _ _ _ _ [(1, .slice wa ws.length wc), (2, .pointer (some ⟨b1, 0, none⟩)), (7, .int .i64 (l0.2.length : Int)), (8, .slice pa ((refW ws (⟨0, (l0.2.length : Int)⟩ : Evt) k).length) pc), (9, .int .i64 (k : Int))] ([blk b1 25 [.slice (some ⟨nb, no, none⟩) ls.length nc, .int .i64 st, .slice aa al ac], row pa pc 88 2 ((refW ws (⟨0, (l0.2.length : Int)⟩ : Evt) k).length) ((refW ws (⟨0, (l0.2.length : Int)⟩ : Evt) k).flatMap eEvt)])
      have hI1 := hI.1
      refine Cd.seq ?_
      refine Cd.seq ?_
      refine Cd.region ?_
      refine Ops.q (q_mv rfl) ?_
      refine Ops.q (q_mv rfl) ?_
      refine Ops.q (q_len esz_26 rfl) ?_
      by_cases hk : (k : Int) < (ws.length : Int)
      · refine Ops.q (q_cmp rfl rfl (c_lt hk)) ?_
        obtain ⟨x4, hx5⟩ : ∃ x, ws[k]? = some x := ⟨_, List.getElem?_eq_getElem (by omega)⟩
        obtain ⟨ab6, ao7, rfl⟩ := RoL.pos hW eInt_len hx5
        have hrl := refW_len ws (⟨0, (l0.2.length : Int)⟩ : Evt) k
        have hrl2 : (refW ws (⟨0, (l0.2.length : Int)⟩ : Evt) k).length ≤ k + 1 := by rw [hrl]; split <;> omega
        refine Ops.to rfl ?_
        refine Cd.cond_t rfl ?_
        refine Cd.skipTo rfl ?_
        refine Cd.seq ?_
        refine Cd.block ?_
        refine Cd.seq ?_
        refine Cd.seq ?_
        refine Cd.region ?_
        refine Ops.q (q_mv rfl) ?_
        refine Ops.q (q_mv rfl) ?_
        refine Ops.q (q_ix (k := k) esz_26 rfl rfl (by omega)) ?_
        refine Ops.q (q_ldR isA_3 rfl (hW.at0 eInt_len hx5 rfl)) ?_
        refine Ops.q (q_mv rfl) ?_
        refine Ops.q (q_ar (v := (l0.2.length : Int) - 1) rfl rfl (a_sub (by omega))) ?_
        by_cases h8 : wi x4 0 ((l0.2.length : Int) - 1)
        · refine Ops.cp en_59 rfl (fun w hs => dT (rwithin_c _ _ _ w) h8) ?_
          refine Ops.q (q_not rfl) ?_
          refine Ops.to rfl ?_
          refine Cd.cond_f rfl ?_
          refine Cd.skipTo rfl ?_
          refine Cd.seq ?_
          refine Cd.region ?_
          refine Ops.q (q_mv rfl) ?_
          refine Ops.q (q_mv rfl) ?_
          refine Ops.q (q_ar rfl rfl (a_mul (by omega))) ?_
          refine Ops.q (q_mv rfl) ?_
          refine Ops.q (q_mv rfl) ?_
          refine Ops.q (q_ix (k := k) esz_26 rfl rfl (by omega)) ?_
          refine Ops.q (q_ldR isA_3 rfl (hW.at0 eInt_len hx5 rfl)) ?_
          refine Ops.q (q_bld [.int .i64 (3 * (k : Int)), .int .i64 x4] pls_88 zc_88 rfl rfl) ?_
          refine Ops.lit [.int .i64 (3 * (k : Int)), .int .i64 x4] el_27 zsb_88 rfl rfl ⟨by decide, by decide⟩ rfl ?_
          intro b9
          refine Ops.app (news := [.int .i64 (3 * (k : Int)), .int .i64 x4]) el_27 zsb_88 (by decide) rfl rfl (fun _ hs => hs.ownRo .here) (fun _ hs => (hs.pull .here).drop) (fun _ _ => (.there .here)) rfl (one rfl) (by omega) (by omega) ?_
          intro a10 c11
          refine Ops.q (q_asg rfl) ?_
          refine Ops.to rfl ?_
          refine Cd.seq ?_
          refine Cd.region ?_
          refine Ops.q (q_mv rfl) ?_
          by_cases hk0 : (k : Int) = 0
          · refine Ops.q (q_cmp rfl rfl (c_eq hk0)) ?_
            obtain rfl : k = 0 := by omega
            refine Ops.to rfl ?_
            refine Cd.cond_t rfl ?_
            refine Cd.region ?_
            refine Ops.q (q_mv rfl) ?_
            refine Ops.q (q_mv rfl) ?_
            refine Ops.q (q_bld [.int .i64 0, .int .i64 (l0.2.length : Int)] pls_88 zc_88 rfl rfl) ?_
            refine Ops.lit [.int .i64 0, .int .i64 (l0.2.length : Int)] el_27 zsb_88 rfl rfl ⟨by decide, by decide⟩ rfl ?_
            intro b12
            refine Ops.app (news := [.int .i64 0, .int .i64 (l0.2.length : Int)]) el_27 zsb_88 (by decide) rfl rfl (fun _ hs => hs.ownRo .here) (fun _ hs => (hs.pull .here).drop) (fun _ _ => (.there .here)) rfl (one rfl) (by omega) (by omega) ?_
            intro a13 c14
            refine Ops.q (q_asg rfl) ?_
            refine Ops.to rfl ?_
            refine Cd.region ?_
            refine Ops.q (q_mv rfl) ?_
            refine Ops.q (q_ar rfl rfl (a_inc (by omega))) ?_
            refine Ops.q (q_asg rfl) ?_
            refine Ops.rnd ((1, a13, c14)) rfl (by dsimp only; exact (⟨by omega, by rw [← hI.2]; exact (firstE_step hx5 (symE_0 h8)).symm⟩)) (by dsimp only; omega) ⟨rfl, rfl, rfl, (by (try dsimp only); rw [refW_one hx5, List.length_append, List.length_append]; rfl), rfl, trivial⟩ (fun _ hs => by have h1 := ((hs.pull (.there .here)).pull (.there .here)); (try dsimp only); rw [refW_one hx5, fm_app, fm_app, List.length_append, List.length_append]; exact h1) 
          · refine Ops.q (q_cmp rfl rfl (c_neq hk0)) ?_
            have hk0' : ¬ k = 0 := by omega
            have hk0 := hk0'
            refine Ops.to rfl ?_
            refine Cd.cond_f rfl ?_
            refine Cd.skipTo rfl ?_
            refine Cd.region ?_
            refine Ops.q (q_mv rfl) ?_
            refine Ops.q (q_ar rfl rfl (a_inc (by omega))) ?_
            refine Ops.q (q_asg rfl) ?_
            refine Ops.rnd ((k + 1, a10, c11)) rfl (by dsimp only; exact (⟨by omega, by rw [← hI.2]; exact (firstE_step hx5 (symE_0 h8)).symm⟩)) (by dsimp only; omega) ⟨rfl, rfl, rfl, (by (try dsimp only); rw [refW_step hk0 hx5, List.length_append]; rfl), rfl, trivial⟩ (fun _ hs => by have h1 := ((hs.pull (.there .here)).pull (.there .here)); (try dsimp only); rw [refW_step hk0 hx5, fm_app, List.length_append]; exact h1) 
        · refine Ops.cp en_59 rfl (fun w hs => dF (rwithin_c _ _ _ w) h8) ?_
          refine Ops.q (q_not rfl) ?_
          refine Ops.to rfl ?_
          refine Cd.cond_t rfl ?_
          refine Cd.seq ?_
          refine Cd.region ?_
          refine Ops.q (q_asg rfl) ?_
          refine Ops.q (q_asg rfl) ?_
          refine Ops.to rfl ?_
          refine Cd.rt (fn := Try.f19) [.slice none 0 0, .int .i64 4] (by with_reducible repeat (first | exact rq_here | apply rq_then | apply rq_block)) rfl ⟨rfl, rfl, trivial⟩ ?_
          intro w' hs'
          have hM : wordP (ls.map (·.2)) st al ws = (if 3000 < ws.length then .error 8 else if firstE (symE l0.2.length) ws ≠ 0 then .error 4 else .ok (insI (evsW ws ws.length) (min 1 ws.length) ⟨0, (l0.2.length : Int)⟩)) := by unfold wordP; rw [if_neg (by simpa using hae), hhd]
          have h9 : firstE (symE l0.2.length) ws = 4 := by rw [← hI.2, firstE_stop hx5 (by rw [symE_4 h8]; decide), symE_4 h8]
          rw [hM, if_neg (by omega), h9, if_pos (by decide)]
          exact ⟨rfl, hs'.none⟩
      · refine Ops.q (q_cmp rfl rfl (c_nlt (by omega))) ?_
        refine Ops.to rfl ?_
        refine Cd.cond_f rfl ?_
        refine Cd.exitTo rfl ?_
        refine Cd.seq ?_
        refine Cd.seq ?_
        refine Cd.region ?_
        refine Ops.q (q_mv rfl) ?_
        refine Ops.q (q_len esz_26 rfl) ?_
        by_cases hz : (ws.length : Int) = 0
        · refine Ops.q (q_cmp rfl rfl (c_eq hz)) ?_
          have hrl := refW_len ws (⟨0, (l0.2.length : Int)⟩ : Evt) k
          have hrl2 : (refW ws (⟨0, (l0.2.length : Int)⟩ : Evt) k).length ≤ k + 1 := by rw [hrl]; split <;> omega
          refine Ops.to rfl ?_
          refine Cd.cond_t rfl ?_
          refine Cd.region ?_
          refine Ops.q (q_mv rfl) ?_
          refine Ops.q (q_mv rfl) ?_
          refine Ops.q (q_bld [.int .i64 0, .int .i64 (l0.2.length : Int)] pls_88 zc_88 rfl rfl) ?_
          refine Ops.lit [.int .i64 0, .int .i64 (l0.2.length : Int)] el_27 zsb_88 rfl rfl ⟨by decide, by decide⟩ rfl ?_
          intro b15
          refine Ops.app (news := [.int .i64 0, .int .i64 (l0.2.length : Int)]) el_27 zsb_88 (by decide) rfl rfl (fun _ hs => hs.ownRo .here) (fun _ hs => (hs.pull .here).drop) (fun _ _ => (.there .here)) rfl (one rfl) (by omega) (by omega) ?_
          intro a16 c17
          refine Ops.q (q_asg rfl) ?_
          refine Ops.to rfl ?_
          refine Cd.seq ?_
          refine Cd.region ?_
          refine Ops.q (q_mv rfl) ?_
          refine Ops.q (q_asg rfl) ?_
          refine Ops.q (q_asg rfl) ?_
          refine Ops.to rfl ?_
          refine Cd.rt (fn := Try.f19) [.slice a16 (((refW ws (⟨0, (l0.2.length : Int)⟩ : Evt) k).length) + 1) c17, .int .i64 0] (by with_reducible repeat (first | exact rq_here | apply rq_then | apply rq_block)) rfl ⟨rfl, rfl, trivial⟩ ?_
          intro w' hs'
          have hM : wordP (ls.map (·.2)) st al ws = (if 3000 < ws.length then .error 8 else if firstE (symE l0.2.length) ws ≠ 0 then .error 4 else .ok (insI (evsW ws ws.length) (min 1 ws.length) ⟨0, (l0.2.length : Int)⟩)) := by unfold wordP; rw [if_neg (by simpa using hae), hhd]
          have h9 : firstE (symE l0.2.length) ws = 0 := by rw [← hI.2, firstE_end (by omega)]
          rw [hM, if_neg (by omega), h9, if_neg (by decide)]
          have hk : k = 0 := by omega
          subst hk
          have hw0 : ws = [] := List.eq_nil_of_length_eq_zero (by omega)
          subst hw0
          exact ⟨(a16, c17), rfl, hs'.only (.there .here)⟩
        · refine Ops.q (q_cmp rfl rfl (c_neq hz)) ?_
          refine Ops.to rfl ?_
          refine Cd.cond_f rfl ?_
          refine Cd.skipTo rfl ?_
          refine Cd.seq ?_
          refine Cd.region ?_
          refine Ops.q (q_mv rfl) ?_
          refine Ops.q (q_asg rfl) ?_
          refine Ops.q (q_asg rfl) ?_
          refine Ops.to rfl ?_
          refine Cd.rt (fn := Try.f19) [.slice pa ((refW ws (⟨0, (l0.2.length : Int)⟩ : Evt) k).length) pc, .int .i64 0] (by with_reducible repeat (first | exact rq_here | apply rq_then | apply rq_block)) rfl ⟨rfl, rfl, trivial⟩ ?_
          intro w' hs'
          have hM : wordP (ls.map (·.2)) st al ws = (if 3000 < ws.length then .error 8 else if firstE (symE l0.2.length) ws ≠ 0 then .error 4 else .ok (insI (evsW ws ws.length) (min 1 ws.length) ⟨0, (l0.2.length : Int)⟩)) := by unfold wordP; rw [if_neg (by simpa using hae), hhd]
          have h9 : firstE (symE l0.2.length) ws = 0 := by rw [← hI.2, firstE_end (by omega)]
          rw [hM, if_neg (by omega), h9, if_neg (by decide)]
          have hk : k = ws.length := by omega
          subst hk
          rw [← refW_end (by omega)]
          exact ⟨(pa, pc), rfl, hs'.only (.there .here)⟩
  · refine Ops.q (q_cmp rfl rfl (c_ne h2)) ?_
    refine Ops.to rfl ?_
    refine Cd.cond_t rfl ?_
    refine Cd.seq ?_
    refine Cd.region ?_
    refine Ops.q (q_mv rfl) ?_
    refine Ops.q (q_asg rfl) ?_
    refine Ops.q (q_asg rfl) ?_
    refine Ops.to rfl ?_
    refine Cd.rt (fn := Try.f19) [.slice none 0 0, .int .i64 (autoE (ls.map (fun l : NL => l.2)) st al)] (by with_reducible repeat (first | exact rq_here | apply rq_then | apply rq_block)) rfl ⟨rfl, rfl, trivial⟩ ?_
    intro w' hs'
    rw [show wordP (ls.map (·.2)) st al ws = .error (autoE (ls.map (·.2)) st al) by unfold wordP; rw [if_pos h2]]
    exact ⟨rfl, hs'.none⟩
end Go.Proofs.Ytilcdghliigngaa
namespace Go.Proofs.Ytilcdghliigngaa
open Go.RowKit Go.Proofs.YtilcdghliigngaaGl Go.Proofs.YtilcdghliigngaaPm
set_option linter.unusedVariables false
set_option linter.unusedSimpArgs false
def hN (s k j : Nat) : Int := if s ≤ j ∧ j < s + s * k then 2 else 1
def mNs (s k i : Nat) : List Prm := (List.range i).map fun j => gateP (hN s k j)
theorem mNs_end (s k : Nat) : mNs s k (s + s * k + 1) = ((List.replicate s (1 : Int)).map (setTh (gateP 0)) ++ (List.replicate (s * k) (2 : Int)).map (setTh (gateP 0))) ++ [(1 : Int)].map (setTh (gateP 0)) := by
  unfold mNs
  rw [List.range_succ, List.map_append, List.range_add, List.map_append]
  congr 1
  · congr 1
    · rw [List.map_replicate]
      refine List.eq_replicate_iff.2 ⟨by simp, fun b hb => ?_⟩
      obtain ⟨j, hj, rfl⟩ := List.mem_map.1 hb
      have := List.mem_range.1 hj
      rw [hN, if_neg (by omega)]; rfl
    · rw [List.map_replicate]
      refine List.eq_replicate_iff.2 ⟨by simp, fun b hb => ?_⟩
      obtain ⟨j, hj, rfl⟩ := List.mem_map.1 hb
      obtain ⟨i, hi, rfl⟩ := List.mem_map.1 hj
      have := List.mem_range.1 hi
      rw [hN, if_pos (by omega)]; rfl
  · simp only [List.map_cons, List.map_nil]
    rw [hN, if_neg (by omega)]; rfl
theorem mNs_step (s k i : Nat) : mNs s k (i + 1) = mNs s k i ++ [gateP (hN s k i)] := rg_app _ _
theorem mNs_len (s k i : Nat) : (mNs s k i).length = i := rg_len _ _
theorem rmachine_c (na : Option Addr) (nc : Nat) (ls : List NL) (st : Int) (aa : Option Addr) (ac : Nat) (acc : List Bool) (w : World) (hL : RoLL w na ls) (hA : RoL w aa eBool acc) : Calls Try.prog 16 [.agg [.slice na ls.length nc, .int .i64 st, .slice aa acc.length ac].toArray].toArray w (RetR (machineP (ls.map (·.2)) st acc) w) := by
  refine fstart Try.func16 rfl rfl (Sat.nil w) ?_
  refine Cd.seq ?_
  refine Cd.region ?_
  refine Ops.box [.slice na ls.length nc, .int .i64 st, .slice aa acc.length ac] rfl rfl ?_
  intro b1
  refine Ops.alc [.slice none 0 0, .int .i64 0, .slice none 0 0] zc_32 ?_
  intro b2
  refine Ops.q (q_asg rfl) ?_
  refine Ops.to rfl ?_
  refine Cd.seq ?_
  refine Cd.region ?_
  refine Ops.q (q_ldBN [.slice na ls.length nc, .int .i64 st, .slice aa acc.length ac] isA_25 sz_25 rfl (.there .here) rfl) ?_
  refine Ops.cp en_53 rfl (fun w hs => rauto_c _ _ ls st _ acc.length _ w (hL.later hs.below)) ?_
  refine Ops.q (q_asg rfl) ?_
  refine Ops.to rfl ?_
  refine Cd.seq ?_
  refine Cd.seq ?_
  refine Cd.region ?_
  refine Ops.q (q_mv rfl) ?_
  by_cases h3 : autoE (ls.map (fun l : NL => l.2)) st acc.length = 0
  · refine Ops.q (q_cmp rfl rfl (c_nne h3)) ?_
    obtain ⟨hw1, hal, hw3, hrow, hin⟩ := autoE_ok h3
    rw [List.length_map] at hw1 hal
    obtain ⟨l0, hl0⟩ : ∃ x, ls[0]? = some x := ⟨_, List.getElem?_eq_getElem (by unfold wi at hw1; omega)⟩
    have hhd : (ls.map (·.2)).headD [] = l0.2 := by cases ls with | nil => simp at hl0 | cons x xs => simp at hl0; subst hl0; rfl
    rw [hhd] at hw3 hrow
    have hs1 : 1 ≤ ls.length ∧ ls.length ≤ 32 := by unfold wi at hw1; omega
    have hk1 : 1 ≤ l0.2.length ∧ l0.2.length ≤ 16 := by unfold wi at hw3; omega
    have hsk : 1 ≤ ls.length * l0.2.length ∧ ls.length * l0.2.length ≤ 512 := ⟨Nat.mul_pos (by omega) (by omega), Nat.le_trans (Nat.mul_le_mul hs1.2 hk1.2) (by decide)⟩
    obtain ⟨nb, no, rfl⟩ := RoL.pos hL.1 eNL_len hl0
    refine Ops.to rfl ?_
    refine Cd.cond_f rfl ?_
    refine Cd.skipTo rfl ?_
    refine Cd.seq ?_
    refine Cd.draw rfl (by kernel_rfl) (.cons (.there .here) .nil) ?_
    intro F4 St5 hP6 hF7 hR8
    refine Dr.q (i := 0) hP6 rfl (by kernel_rfl) (q_fa fo_25_0 rfl) ?_
    refine Dr.q (i := 1) hP6 rfl (by kernel_rfl) (q_ldB isA_22 rfl .here rfl) ?_
    refine Dr.q (i := 2) hP6 rfl (by kernel_rfl) (q_len esz_22 rfl) ?_
    refine Dr.q (i := 3) hP6 rfl (by kernel_rfl) (q_fa fo_25_0 rfl) ?_
    refine Dr.q (i := 4) hP6 rfl (by kernel_rfl) (q_ldB isA_22 rfl .here rfl) ?_
    refine Dr.q (i := 5) hP6 rfl (by kernel_rfl) (q_ix (k := 0) esz_22 rfl rfl (by omega)) ?_
    refine Dr.q (i := 6) hP6 rfl (by kernel_rfl) (q_ldR isA_26 rfl (hL.1.at0 eNL_len hl0 rfl)) ?_
    refine Dr.q (i := 7) hP6 rfl (by kernel_rfl) (q_len esz_26 rfl) ?_
    refine Dr.q (i := 8) hP6 rfl (by kernel_rfl) (q_asg rfl) ?_
    refine Dr.tail 9 (by kernel_rfl) ?_
    refine Ops.sat ?_ (fun _ hs => hR8 .here hs)
    refine Ops.q (q_asg rfl) ?_
    refine Ops.to rfl ?_
    refine Cd.seq ?_
    refine Cd.region ?_
    refine Ops.q (q_mv rfl) ?_
    refine Ops.q (q_ar (v := ((l0.2.length + 1 : Nat) : Int)) rfl rfl (a_inc (by omega))) ?_
    refine Ops.q (q_bld [.slice none 0 0, .int .i64 ((l0.2.length + 1 : Nat) : Int), .slice none 0 0] pls_32 zc_32 rfl rfl) ?_
    refine Ops.alc [.slice none 0 0, .int .i64 0, .slice none 0 0] zc_32 ?_
    intro b9
    refine Ops.stB [.slice none 0 0, .int .i64 ((l0.2.length + 1 : Nat) : Int), .slice none 0 0] [.slice none 0 0, .int .i64 ((l0.2.length + 1 : Nat) : Int), .slice none 0 0] sz_32 rfl rfl rfl (one rfl) .here rfl rfl ?_
    refine Ops.to rfl ?_
    refine Cd.seq ?_
    refine Cd.seq ?_
    refine Cd.nilRow 126 4 ?_
    refine Cd.nilRow 116 8 ?_
    change Cd _ _ _ _ _ _ _ _ ([row none 0 116 8 (([] : List Prm).length) (([] : List Prm).flatMap ePrm), row none 0 126 4 (([] : List Syn).length) (([] : List Syn).flatMap eSyn), blk b9 32 [.slice none (([] : List Prm).length) 0, .int .i64 ((l0.2.length + 1 : Nat) : Int), .slice none (([] : List Syn).length) 0], blk b1 25 [.slice (some ⟨nb, no, none⟩) ls.length nc, .int .i64 st, .slice aa acc.length ac], blk b2 32 [.slice none 0 0, .int .i64 0, .slice none 0 0]])
    refine Cd.region ?_
    refine Ops.q (q_asg rfl) ?_
    refine Ops.to rfl ?_
    refine Cd.block ?_
    refine Cd.lp (σ := Nat × Option Addr × Nat) (fun s => s.1 ≤ ls.length + ls.length * l0.2.length + 1) (fun s => [(1, .pointer (some ⟨b1, 0, none⟩)), (2, .pointer (some ⟨b2, 0, none⟩)), (5, .int .i64 (ls.length : Int)), (6, .int .i64 (l0.2.length : Int)), (7, .pointer (some ⟨b9, 0, none⟩)), (8, .int .i64 (s.1 : Int))]) (fun s => [blk b9 32 [.slice s.2.1 ((mNs ls.length l0.2.length s.1).length) s.2.2, .int .i64 ((l0.2.length + 1 : Nat) : Int), .slice none (([] : List Syn).length) 0], row s.2.1 s.2.2 116 8 ((mNs ls.length l0.2.length s.1).length) ((mNs ls.length l0.2.length s.1).flatMap ePrm), row none 0 126 4 (([] : List Syn).length) (([] : List Syn).flatMap eSyn), blk b1 25 [.slice (some ⟨nb, no, none⟩) ls.length nc, .int .i64 st, .slice aa acc.length ac], blk b2 32 [.slice none 0 0, .int .i64 0, .slice none 0 0]]) (fun s => ls.length + ls.length * l0.2.length + 1 - s.1) (0, none, 0) (Nat.zero_le _) ⟨rfl, rfl, rfl, rfl, rfl, rfl, trivial⟩ (fun _ hs => by have h1 := (((((hs.pull (.there (.there (.there (.there .here))))).pull (.there (.there (.there (.there .here))))).pull (.there (.there (.there .here)))).pull (.there (.there (.there .here)))).pull (.there (.there (.there (.there .here))))); (try dsimp only); exact h1) ?_
    rintro ⟨i, pa, pc⟩ hI
    dsimp only at hI
    change Cd _ _ _ _ _ _ _ [(1, .pointer (some ⟨b1, 0, none⟩)), (2, .pointer (some ⟨b2, 0, none⟩)), (5, .int .i64 (ls.length : Int)), (6, .int .i64 (l0.2.length : Int)), (7, .pointer (some ⟨b9, 0, none⟩)), (8, .int .i64 (i : Int))] ([blk b9 32 [.slice pa ((mNs ls.length l0.2.length i).length) pc, .int .i64 ((l0.2.length + 1 : Nat) : Int), .slice none (([] : List Syn).length) 0], row pa pc 116 8 ((mNs ls.length l0.2.length i).length) ((mNs ls.length l0.2.length i).flatMap ePrm), row none 0 126 4 (([] : List Syn).length) (([] : List Syn).flatMap eSyn), blk b1 25 [.slice (some ⟨nb, no, none⟩) ls.length nc, .int .i64 st, .slice aa acc.length ac], blk b2 32 [.slice none 0 0, .int .i64 0, .slice none 0 0]])
    refine Cd.seq ?_
    refine Cd.seq ?_
    refine Cd.region ?_
    refine Ops.q (q_mv rfl) ?_
    refine Ops.q (q_mv rfl) ?_
    refine Ops.q (q_mv rfl) ?_
    refine Ops.q (q_mv rfl) ?_
    refine Ops.q (q_ar (v := ((ls.length * l0.2.length : Nat) : Int)) rfl rfl ((by rw [a_mul (by rw [← Int.natCast_mul]; omega), ← Int.natCast_mul]))) ?_
    refine Ops.q (q_ar (v := ((ls.length + ls.length * l0.2.length : Nat) : Int)) rfl rfl ((by rw [a_add (by omega)]; rfl))) ?_
    refine Ops.q (q_ar (v := ((ls.length + ls.length * l0.2.length + 1 : Nat) : Int)) rfl rfl (a_inc (by omega))) ?_
    by_cases hi0 : (i : Int) < ((ls.length + ls.length * l0.2.length + 1 : Nat) : Int)
    · refine Ops.q (q_cmp rfl rfl (c_lt hi0)) ?_
      refine Ops.to rfl ?_
      refine Cd.cond_t rfl ?_
      refine Cd.skipTo rfl ?_
      refine Cd.seq ?_
      refine Cd.block ?_
      refine Cd.seq ?_
      refine Cd.region ?_
      refine Ops.q (q_asg rfl) ?_
      refine Ops.to rfl ?_
      refine Cd.seq ?_
      refine Cd.seq ?_
      refine Cd.region ?_
      refine Ops.q (q_mv rfl) ?_
      refine Ops.q (q_mv rfl) ?_
      by_cases hge : (ls.length : Int) ≤ (i : Int)
      · refine Ops.q (q_cmp rfl rfl (c_ge hge)) ?_
        refine Ops.q (q_mv rfl) ?_
        refine Ops.q (q_mv rfl) ?_
        refine Ops.q (q_mv rfl) ?_
        refine Ops.q (q_mv rfl) ?_
        refine Ops.q (q_mv rfl) ?_
        refine Ops.q (q_ar (v := ((ls.length * l0.2.length : Nat) : Int)) rfl rfl ((by rw [a_mul (by rw [← Int.natCast_mul]; omega), ← Int.natCast_mul]))) ?_
        refine Ops.q (q_ar (v := ((ls.length + ls.length * l0.2.length : Nat) : Int)) rfl rfl ((by rw [a_add (by omega)]; rfl))) ?_
        by_cases hlt : (i : Int) < ((ls.length + ls.length * l0.2.length : Nat) : Int)
        · refine Ops.q (q_cmp rfl rfl (c_lt hlt)) ?_
          refine Ops.q (q_pickT rfl rfl) ?_
          refine Ops.to rfl ?_
          refine Cd.cond_t rfl ?_
          refine Cd.region ?_
          refine Ops.q (q_asg rfl) ?_
          refine Ops.to rfl ?_
          refine Cd.draw rfl (by kernel_rfl) (.cons .here .nil) ?_
          intro F10 St11 hP12 hF13 hR14
          refine Dr.q (i := 0) hP12 rfl (by kernel_rfl) (q_fa fo_32_0 rfl) ?_
          refine Dr.q (i := 1) hP12 rfl (by kernel_rfl) (q_ldB isA_29 rfl .here rfl) ?_
          refine Dr.q (i := 2) hP12 rfl (by kernel_rfl) (q_mv rfl) ?_
          refine Dr.e (i := 3) rfl (by kernel_rfl) ?_
          refine Ops.cp en_54 rfl (fun w hs => rgate_c 2 w) ?_
          refine Dr.back (fun _ hs => hF13 .here hs) ?_
          refine Dr.e (i := 4) rfl (by kernel_rfl) ?_
          refine Ops.lit [.int .i64 ((gateP 2).lk), .int .i64 ((gateP 2).leak), .int .i64 ((gateP 2).bias), .int .i64 ((gateP 2).th), .int .i64 ((gateP 2).rk), .int .i64 ((gateP 2).rs), .int .i64 ((gateP 2).fl), .int .i64 ((gateP 2).rest)] el_29 zsb_116 rfl rfl ⟨by decide, by decide⟩ rfl ?_
          intro b15
          refine Dr.back (fun _ hs => hF13 (.there .here) hs) ?_
          refine Dr.e (i := 5) rfl (by kernel_rfl) ?_
          refine Ops.app (news := [.int .i64 ((gateP 2).lk), .int .i64 ((gateP 2).leak), .int .i64 ((gateP 2).bias), .int .i64 ((gateP 2).th), .int .i64 ((gateP 2).rk), .int .i64 ((gateP 2).rs), .int .i64 ((gateP 2).fl), .int .i64 ((gateP 2).rest)]) el_29 zsb_116 (by decide) rfl rfl (fun _ hs => hs.ownRo .here) (fun _ hs => (hs.pull .here).drop) (fun _ _ => (.there .here)) rfl (one rfl) (by rw [mNs_len]; omega) (by rw [mNs_len]; omega) ?_
          intro a16 c17
          refine Dr.back (fun _ hs => hF13 .here hs) ?_
          refine Dr.tail 6 (by kernel_rfl) ?_
          refine Ops.sat ?_ (fun _ hs => hR14 .here hs)
          refine Ops.q (q_fa fo_32_0 rfl) ?_
          refine Ops.stB [.slice a16 (((mNs ls.length l0.2.length i).length) + 1) c17] [.slice a16 (((mNs ls.length l0.2.length i).length) + 1) c17, .int .i64 ((l0.2.length + 1 : Nat) : Int), .slice none (([] : List Syn).length) 0] sz_29 rfl rfl rfl (one rfl) .here rfl rfl ?_
          refine Ops.to rfl ?_
          refine Cd.region ?_
          refine Ops.q (q_mv rfl) ?_
          refine Ops.q (q_ar rfl rfl (a_inc (by omega))) ?_
          refine Ops.q (q_asg rfl) ?_
          refine Ops.rnd ((i + 1, a16, c17)) rfl (by dsimp only; exact (by omega)) (by dsimp only; omega) ⟨rfl, rfl, rfl, rfl, rfl, rfl, trivial⟩ (fun _ hs => by have h1 := (((((hs.pull (.there (.there (.there (.there .here))))).pull (.there (.there (.there (.there .here))))).pull (.there (.there (.there (.there .here))))).pull (.there (.there (.there (.there .here))))).pull (.there (.there (.there (.there .here))))); dsimp only; rw [mNs_step, (show hN ls.length l0.2.length i = 2 by rw [hN, if_pos (by omega)]), List.length_append, fm_app]; exact h1) 
        · refine Ops.q (q_cmp rfl rfl (c_nlt (by omega))) ?_
          refine Ops.q (q_pickT rfl rfl) ?_
          refine Ops.to rfl ?_
          refine Cd.cond_f rfl ?_
          refine Cd.skipTo rfl ?_
          refine Cd.draw rfl (by kernel_rfl) (.cons .here .nil) ?_
          intro F18 St19 hP20 hF21 hR22
          refine Dr.q (i := 0) hP20 rfl (by kernel_rfl) (q_fa fo_32_0 rfl) ?_
          refine Dr.q (i := 1) hP20 rfl (by kernel_rfl) (q_ldB isA_29 rfl .here rfl) ?_
          refine Dr.q (i := 2) hP20 rfl (by kernel_rfl) (q_mv rfl) ?_
          refine Dr.e (i := 3) rfl (by kernel_rfl) ?_
          refine Ops.cp en_54 rfl (fun w hs => rgate_c 1 w) ?_
          refine Dr.back (fun _ hs => hF21 .here hs) ?_
          refine Dr.e (i := 4) rfl (by kernel_rfl) ?_
          refine Ops.lit [.int .i64 ((gateP 1).lk), .int .i64 ((gateP 1).leak), .int .i64 ((gateP 1).bias), .int .i64 ((gateP 1).th), .int .i64 ((gateP 1).rk), .int .i64 ((gateP 1).rs), .int .i64 ((gateP 1).fl), .int .i64 ((gateP 1).rest)] el_29 zsb_116 rfl rfl ⟨by decide, by decide⟩ rfl ?_
          intro b23
          refine Dr.back (fun _ hs => hF21 (.there .here) hs) ?_
          refine Dr.e (i := 5) rfl (by kernel_rfl) ?_
          refine Ops.app (news := [.int .i64 ((gateP 1).lk), .int .i64 ((gateP 1).leak), .int .i64 ((gateP 1).bias), .int .i64 ((gateP 1).th), .int .i64 ((gateP 1).rk), .int .i64 ((gateP 1).rs), .int .i64 ((gateP 1).fl), .int .i64 ((gateP 1).rest)]) el_29 zsb_116 (by decide) rfl rfl (fun _ hs => hs.ownRo .here) (fun _ hs => (hs.pull .here).drop) (fun _ _ => (.there .here)) rfl (one rfl) (by rw [mNs_len]; omega) (by rw [mNs_len]; omega) ?_
          intro a24 c25
          refine Dr.back (fun _ hs => hF21 .here hs) ?_
          refine Dr.tail 6 (by kernel_rfl) ?_
          refine Ops.sat ?_ (fun _ hs => hR22 .here hs)
          refine Ops.q (q_fa fo_32_0 rfl) ?_
          refine Ops.stB [.slice a24 (((mNs ls.length l0.2.length i).length) + 1) c25] [.slice a24 (((mNs ls.length l0.2.length i).length) + 1) c25, .int .i64 ((l0.2.length + 1 : Nat) : Int), .slice none (([] : List Syn).length) 0] sz_29 rfl rfl rfl (one rfl) .here rfl rfl ?_
          refine Ops.to rfl ?_
          refine Cd.region ?_
          refine Ops.q (q_mv rfl) ?_
          refine Ops.q (q_ar rfl rfl (a_inc (by omega))) ?_
          refine Ops.q (q_asg rfl) ?_
          refine Ops.rnd ((i + 1, a24, c25)) rfl (by dsimp only; exact (by omega)) (by dsimp only; omega) ⟨rfl, rfl, rfl, rfl, rfl, rfl, trivial⟩ (fun _ hs => by have h1 := (((((hs.pull (.there (.there (.there (.there .here))))).pull (.there (.there (.there (.there .here))))).pull (.there (.there (.there (.there .here))))).pull (.there (.there (.there (.there .here))))).pull (.there (.there (.there (.there .here))))); dsimp only; rw [mNs_step, (show hN ls.length l0.2.length i = 1 by rw [hN, if_neg (by omega)]), List.length_append, fm_app]; exact h1) 
      · refine Ops.q (q_cmp rfl rfl (c_nge (by omega))) ?_
        refine Ops.q (q_mv rfl) ?_
        refine Ops.sk ?_
        refine Ops.sk ?_
        refine Ops.sk ?_
        refine Ops.sk ?_
        refine Ops.sk ?_
        refine Ops.sk ?_
        refine Ops.sk ?_
        refine Ops.q (q_pickF rfl rfl) ?_
        refine Ops.to rfl ?_
        refine Cd.cond_f rfl ?_
        refine Cd.skipTo rfl ?_
        refine Cd.draw rfl (by kernel_rfl) (.cons .here .nil) ?_
        intro F26 St27 hP28 hF29 hR30
        refine Dr.q (i := 0) hP28 rfl (by kernel_rfl) (q_fa fo_32_0 rfl) ?_
        refine Dr.q (i := 1) hP28 rfl (by kernel_rfl) (q_ldB isA_29 rfl .here rfl) ?_
        refine Dr.q (i := 2) hP28 rfl (by kernel_rfl) (q_mv rfl) ?_
        refine Dr.e (i := 3) rfl (by kernel_rfl) ?_
        refine Ops.cp en_54 rfl (fun w hs => rgate_c 1 w) ?_
        refine Dr.back (fun _ hs => hF29 .here hs) ?_
        refine Dr.e (i := 4) rfl (by kernel_rfl) ?_
        refine Ops.lit [.int .i64 ((gateP 1).lk), .int .i64 ((gateP 1).leak), .int .i64 ((gateP 1).bias), .int .i64 ((gateP 1).th), .int .i64 ((gateP 1).rk), .int .i64 ((gateP 1).rs), .int .i64 ((gateP 1).fl), .int .i64 ((gateP 1).rest)] el_29 zsb_116 rfl rfl ⟨by decide, by decide⟩ rfl ?_
        intro b31
        refine Dr.back (fun _ hs => hF29 (.there .here) hs) ?_
        refine Dr.e (i := 5) rfl (by kernel_rfl) ?_
        refine Ops.app (news := [.int .i64 ((gateP 1).lk), .int .i64 ((gateP 1).leak), .int .i64 ((gateP 1).bias), .int .i64 ((gateP 1).th), .int .i64 ((gateP 1).rk), .int .i64 ((gateP 1).rs), .int .i64 ((gateP 1).fl), .int .i64 ((gateP 1).rest)]) el_29 zsb_116 (by decide) rfl rfl (fun _ hs => hs.ownRo .here) (fun _ hs => (hs.pull .here).drop) (fun _ _ => (.there .here)) rfl (one rfl) (by rw [mNs_len]; omega) (by rw [mNs_len]; omega) ?_
        intro a32 c33
        refine Dr.back (fun _ hs => hF29 .here hs) ?_
        refine Dr.tail 6 (by kernel_rfl) ?_
        refine Ops.sat ?_ (fun _ hs => hR30 .here hs)
        refine Ops.q (q_fa fo_32_0 rfl) ?_
        refine Ops.stB [.slice a32 (((mNs ls.length l0.2.length i).length) + 1) c33] [.slice a32 (((mNs ls.length l0.2.length i).length) + 1) c33, .int .i64 ((l0.2.length + 1 : Nat) : Int), .slice none (([] : List Syn).length) 0] sz_29 rfl rfl rfl (one rfl) .here rfl rfl ?_
        refine Ops.to rfl ?_
        refine Cd.region ?_
        refine Ops.q (q_mv rfl) ?_
        refine Ops.q (q_ar rfl rfl (a_inc (by omega))) ?_
        refine Ops.q (q_asg rfl) ?_
        refine Ops.rnd ((i + 1, a32, c33)) rfl (by dsimp only; exact (by omega)) (by dsimp only; omega) ⟨rfl, rfl, rfl, rfl, rfl, rfl, trivial⟩ (fun _ hs => by have h1 := (((((hs.pull (.there (.there (.there (.there .here))))).pull (.there (.there (.there (.there .here))))).pull (.there (.there (.there (.there .here))))).pull (.there (.there (.there (.there .here))))).pull (.there (.there (.there (.there .here))))); dsimp only; rw [mNs_step, (show hN ls.length l0.2.length i = 1 by rw [hN, if_neg (by omega)]), List.length_append, fm_app]; exact h1) 
    · refine Ops.q (q_cmp rfl rfl (c_nlt (by omega))) ?_
      have hie : i = ls.length + ls.length * l0.2.length + 1 := by omega
      rw [hie]
      refine Ops.to rfl ?_
      refine Cd.cond_f rfl ?_
      refine Cd.exitTo rfl ?_
      refine Cd.seq ?_
      refine Cd.draw rfl (by kernel_rfl) (.cons .here (.cons (.there (.there .here)) .nil)) ?_
      intro F34 St35 hP36 hF37 hR38
      refine Dr.q (i := 0) hP36 rfl (by kernel_rfl) (q_ldBN [.slice pa ((mNs ls.length l0.2.length (ls.length + ls.length * l0.2.length + 1)).length) pc, .int .i64 ((l0.2.length + 1 : Nat) : Int), .slice none (([] : List Syn).length) 0] isA_32 sz_32 rfl .here rfl) ?_
      refine Dr.q (i := 1) hP36 rfl (by kernel_rfl) (q_mv rfl) ?_
      refine Dr.q (i := 3) hP36 rfl (by kernel_rfl) (q_fa fo_25_1 rfl) ?_
      refine Dr.q (i := 4) hP36 rfl (by kernel_rfl) (q_ldB isA_3 rfl (.there .here) rfl) ?_
      refine Dr.e (i := 2) rfl (by kernel_rfl) ?_
      refine Ops.cp en_56 rfl (fun w hs => rinput_c (l0.2.length : Int) w (by omega)) ?_
      refine Dr.back (fun _ hs => hF37 .here hs) ?_
      refine Dr.e (i := 5) rfl (by kernel_rfl) ?_
      refine Ops.cm (α := Option Addr × Nat) (v := fun p => .agg [.slice pa ((mNs ls.length l0.2.length (ls.length + ls.length * l0.2.length + 1)).length) pc, .int .i64 ((l0.2.length + 1 : Nat) : Int), .slice p.1 (([] : List Syn) ++ [(⟨-1 - (l0.2.length : Int), st, 1, 1⟩ : Syn)]).length p.2].toArray) (A' := fun p => row p.1 p.2 126 4 (([] : List Syn) ++ [(⟨-1 - (l0.2.length : Int), st, 1, 1⟩ : Syn)]).length ((([] : List Syn) ++ [(⟨-1 - (l0.2.length : Int), st, 1, 1⟩ : Syn)]).flatMap eSyn) :: [F34, row pa pc 116 8 ((mNs ls.length l0.2.length (ls.length + ls.length * l0.2.length + 1)).length) ((mNs ls.length l0.2.length (ls.length + ls.length * l0.2.length + 1)).flatMap ePrm), blk b2 32 [.slice none 0 0, .int .i64 0, .slice none 0 0]]) en_55 rfl (fun w hs => wire_c _ _ _ ((l0.2.length + 1 : Nat) : Int) _ _ ([] : List Syn) (-1 - (l0.2.length : Int)) st 1 1 _ w _ (by simp) (((((hs.pull (.there (.there (.there .here)))).pull (.there (.there .here))).pull (.there (.there .here))).pull (.there (.there (.there .here)))))) ?_
      rintro ⟨a39, c40⟩
      refine Dr.back (fun _ hs => hF37 (.there .here) hs) ?_
      refine Dr.tail 6 (by kernel_rfl) ?_
      refine Ops.sat ?_ (fun _ hs => hR38 (.there .here) hs)
      refine Ops.stB [.slice pa ((mNs ls.length l0.2.length (ls.length + ls.length * l0.2.length + 1)).length) pc, .int .i64 ((l0.2.length + 1 : Nat) : Int), .slice a39 ((([] : List Syn) ++ [(⟨-1 - (l0.2.length : Int), st, 1, 1⟩ : Syn)]).length) c40] [.slice pa ((mNs ls.length l0.2.length (ls.length + ls.length * l0.2.length + 1)).length) pc, .int .i64 ((l0.2.length + 1 : Nat) : Int), .slice a39 ((([] : List Syn) ++ [(⟨-1 - (l0.2.length : Int), st, 1, 1⟩ : Syn)]).length) c40] sz_32 rfl rfl rfl (one rfl) .here rfl rfl ?_
      refine Ops.to rfl ?_
      refine Cd.seq ?_
      refine Cd.seq ?_
      refine Cd.region ?_
      refine Ops.q (q_asg rfl) ?_
      refine Ops.to rfl ?_
      refine Cd.block ?_
      refine Cd.lp (σ := Nat × Option Addr × Nat) (fun s => s.1 ≤ ls.length) (fun s => [(1, .pointer (some ⟨b1, 0, none⟩)), (2, .pointer (some ⟨b2, 0, none⟩)), (5, .int .i64 (ls.length : Int)), (6, .int .i64 (l0.2.length : Int)), (7, .pointer (some ⟨b9, 0, none⟩)), (10, .int .i64 (s.1 : Int))]) (fun s => [blk b9 32 [.slice pa ((mNs ls.length l0.2.length (ls.length + ls.length * l0.2.length + 1)).length) pc, .int .i64 ((l0.2.length + 1 : Nat) : Int), .slice s.2.1 (((([] : List Syn) ++ [(⟨-1 - (l0.2.length : Int), st, 1, 1⟩ : Syn)]) ++ rowsTo ls.length l0.2.length (ls.map (·.2)) s.1).length) s.2.2], row pa pc 116 8 ((mNs ls.length l0.2.length (ls.length + ls.length * l0.2.length + 1)).length) ((mNs ls.length l0.2.length (ls.length + ls.length * l0.2.length + 1)).flatMap ePrm), row s.2.1 s.2.2 126 4 (((([] : List Syn) ++ [(⟨-1 - (l0.2.length : Int), st, 1, 1⟩ : Syn)]) ++ rowsTo ls.length l0.2.length (ls.map (·.2)) s.1).length) (((([] : List Syn) ++ [(⟨-1 - (l0.2.length : Int), st, 1, 1⟩ : Syn)]) ++ rowsTo ls.length l0.2.length (ls.map (·.2)) s.1).flatMap eSyn), blk b1 25 [.slice (some ⟨nb, no, none⟩) ls.length nc, .int .i64 st, .slice aa acc.length ac], blk b2 32 [.slice none 0 0, .int .i64 0, .slice none 0 0]]) (fun s => ls.length - s.1) (0, a39, c40) (Nat.zero_le _) ⟨rfl, rfl, rfl, rfl, rfl, rfl, trivial⟩ (fun _ hs => by have h1 := (((((hs.pull (.there (.there (.there (.there .here))))).pull (.there (.there .here))).pull (.there (.there (.there .here)))).pull (.there (.there (.there (.there .here))))).pull (.there (.there (.there (.there .here))))); (try dsimp only); rw [show ((([] : List Syn) ++ [(⟨-1 - (l0.2.length : Int), st, 1, 1⟩ : Syn)]) ++ rowsTo ls.length l0.2.length (ls.map (·.2)) 0) = (([] : List Syn) ++ [(⟨-1 - (l0.2.length : Int), st, 1, 1⟩ : Syn)]) from List.append_nil _]; exact h1) ?_
      rintro ⟨q, qa, qc⟩ hI
      dsimp only at hI
      change Cd _ _ _ _ _ _ _ [(1, .pointer (some ⟨b1, 0, none⟩)), (2, .pointer (some ⟨b2, 0, none⟩)), (5, .int .i64 (ls.length : Int)), (6, .int .i64 (l0.2.length : Int)), (7, .pointer (some ⟨b9, 0, none⟩)), (10, .int .i64 (q : Int))] ([blk b9 32 [.slice pa ((mNs ls.length l0.2.length (ls.length + ls.length * l0.2.length + 1)).length) pc, .int .i64 ((l0.2.length + 1 : Nat) : Int), .slice qa (((([] : List Syn) ++ [(⟨-1 - (l0.2.length : Int), st, 1, 1⟩ : Syn)]) ++ rowsTo ls.length l0.2.length (ls.map (·.2)) q).length) qc], row pa pc 116 8 ((mNs ls.length l0.2.length (ls.length + ls.length * l0.2.length + 1)).length) ((mNs ls.length l0.2.length (ls.length + ls.length * l0.2.length + 1)).flatMap ePrm), row qa qc 126 4 (((([] : List Syn) ++ [(⟨-1 - (l0.2.length : Int), st, 1, 1⟩ : Syn)]) ++ rowsTo ls.length l0.2.length (ls.map (·.2)) q).length) (((([] : List Syn) ++ [(⟨-1 - (l0.2.length : Int), st, 1, 1⟩ : Syn)]) ++ rowsTo ls.length l0.2.length (ls.map (·.2)) q).flatMap eSyn), blk b1 25 [.slice (some ⟨nb, no, none⟩) ls.length nc, .int .i64 st, .slice aa acc.length ac], blk b2 32 [.slice none 0 0, .int .i64 0, .slice none 0 0]])
      refine Cd.seq ?_
      refine Cd.seq ?_
      refine Cd.region ?_
      refine Ops.q (q_mv rfl) ?_
      refine Ops.q (q_mv rfl) ?_
      by_cases hq0 : (q : Int) < (ls.length : Int)
      · refine Ops.q (q_cmp rfl rfl (c_lt hq0)) ?_
        obtain ⟨⟨⟨xa, xc⟩, xr⟩, hx⟩ : ∃ x, ls[q]? = some x := ⟨_, List.getElem?_eq_getElem (by omega)⟩
        have hxq : (ls.map (·.2))[q]? = some xr := by rw [List.getElem?_map, hx]; rfl
        have hxm : xr ∈ ls.map (·.2) := List.mem_iff_getElem?.2 ⟨q, hxq⟩
        have hxl := hrow xr hxm
        have hxe : RoL w xa eInt xr := hL.2 _ (List.mem_iff_getElem?.2 ⟨q, hx⟩)
        obtain ⟨xv, hxv⟩ : ∃ v, xr[0]? = some v := ⟨_, List.getElem?_eq_getElem (by omega)⟩
        obtain ⟨xb, xo, rfl⟩ := RoL.pos hxe eInt_len hxv
        refine Ops.to rfl ?_
        refine Cd.cond_t rfl ?_
        refine Cd.skipTo rfl ?_
        refine Cd.seq ?_
        refine Cd.block ?_
        refine Cd.seq ?_
        refine Cd.region ?_
        refine Ops.q (q_asg rfl) ?_
        refine Ops.to rfl ?_
        refine Cd.block ?_
        refine Cd.lp (σ := Nat × Option Addr × Nat) (fun s => s.1 ≤ xr.length) (fun s => [(1, .pointer (some ⟨b1, 0, none⟩)), (2, .pointer (some ⟨b2, 0, none⟩)), (5, .int .i64 (ls.length : Int)), (6, .int .i64 (l0.2.length : Int)), (7, .pointer (some ⟨b9, 0, none⟩)), (10, .int .i64 (q : Int)), (11, .int .i64 (s.1 : Int))]) (fun s => [blk b9 32 [.slice pa ((mNs ls.length l0.2.length (ls.length + ls.length * l0.2.length + 1)).length) pc, .int .i64 ((l0.2.length + 1 : Nat) : Int), .slice s.2.1 ((((([] : List Syn) ++ [(⟨-1 - (l0.2.length : Int), st, 1, 1⟩ : Syn)]) ++ rowsTo ls.length l0.2.length (ls.map (·.2)) q) ++ cellsTo ls.length l0.2.length q xr s.1).length) s.2.2], row pa pc 116 8 ((mNs ls.length l0.2.length (ls.length + ls.length * l0.2.length + 1)).length) ((mNs ls.length l0.2.length (ls.length + ls.length * l0.2.length + 1)).flatMap ePrm), row s.2.1 s.2.2 126 4 ((((([] : List Syn) ++ [(⟨-1 - (l0.2.length : Int), st, 1, 1⟩ : Syn)]) ++ rowsTo ls.length l0.2.length (ls.map (·.2)) q) ++ cellsTo ls.length l0.2.length q xr s.1).length) ((((([] : List Syn) ++ [(⟨-1 - (l0.2.length : Int), st, 1, 1⟩ : Syn)]) ++ rowsTo ls.length l0.2.length (ls.map (·.2)) q) ++ cellsTo ls.length l0.2.length q xr s.1).flatMap eSyn), blk b1 25 [.slice (some ⟨nb, no, none⟩) ls.length nc, .int .i64 st, .slice aa acc.length ac], blk b2 32 [.slice none 0 0, .int .i64 0, .slice none 0 0]]) (fun s => xr.length - s.1) (0, qa, qc) (Nat.zero_le _) ⟨rfl, rfl, rfl, rfl, rfl, rfl, rfl, trivial⟩ (fun _ hs => by have h1 := (((((hs.pull (.there (.there (.there (.there .here))))).pull (.there (.there (.there (.there .here))))).pull (.there (.there (.there (.there .here))))).pull (.there (.there (.there (.there .here))))).pull (.there (.there (.there (.there .here))))); (try dsimp only); rw [show (((([] : List Syn) ++ [(⟨-1 - (l0.2.length : Int), st, 1, 1⟩ : Syn)]) ++ rowsTo ls.length l0.2.length (ls.map (·.2)) q) ++ cellsTo ls.length l0.2.length q xr 0) = ((([] : List Syn) ++ [(⟨-1 - (l0.2.length : Int), st, 1, 1⟩ : Syn)]) ++ rowsTo ls.length l0.2.length (ls.map (·.2)) q) from List.append_nil _]; exact h1) ?_
        rintro ⟨c, ra, rc⟩ hI
        dsimp only at hI
        change Cd _ _ _ _ _ _ _ [(1, .pointer (some ⟨b1, 0, none⟩)), (2, .pointer (some ⟨b2, 0, none⟩)), (5, .int .i64 (ls.length : Int)), (6, .int .i64 (l0.2.length : Int)), (7, .pointer (some ⟨b9, 0, none⟩)), (10, .int .i64 (q : Int)), (11, .int .i64 (c : Int))] ([blk b9 32 [.slice pa ((mNs ls.length l0.2.length (ls.length + ls.length * l0.2.length + 1)).length) pc, .int .i64 ((l0.2.length + 1 : Nat) : Int), .slice ra ((((([] : List Syn) ++ [(⟨-1 - (l0.2.length : Int), st, 1, 1⟩ : Syn)]) ++ rowsTo ls.length l0.2.length (ls.map (·.2)) q) ++ cellsTo ls.length l0.2.length q xr c).length) rc], row pa pc 116 8 ((mNs ls.length l0.2.length (ls.length + ls.length * l0.2.length + 1)).length) ((mNs ls.length l0.2.length (ls.length + ls.length * l0.2.length + 1)).flatMap ePrm), row ra rc 126 4 ((((([] : List Syn) ++ [(⟨-1 - (l0.2.length : Int), st, 1, 1⟩ : Syn)]) ++ rowsTo ls.length l0.2.length (ls.map (·.2)) q) ++ cellsTo ls.length l0.2.length q xr c).length) ((((([] : List Syn) ++ [(⟨-1 - (l0.2.length : Int), st, 1, 1⟩ : Syn)]) ++ rowsTo ls.length l0.2.length (ls.map (·.2)) q) ++ cellsTo ls.length l0.2.length q xr c).flatMap eSyn), blk b1 25 [.slice (some ⟨nb, no, none⟩) ls.length nc, .int .i64 st, .slice aa acc.length ac], blk b2 32 [.slice none 0 0, .int .i64 0, .slice none 0 0]])
        refine Cd.seq ?_
        refine Cd.seq ?_
        refine Cd.region ?_
        refine Ops.q (q_mv rfl) ?_
        refine Ops.q (q_mv rfl) ?_
        by_cases hc0 : (c : Int) < (l0.2.length : Int)
        · refine Ops.q (q_cmp rfl rfl (c_lt hc0)) ?_
          obtain ⟨x41, hx42⟩ : ∃ x, xr[c]? = some x := ⟨_, List.getElem?_eq_getElem (by omega)⟩
          have hkq : l0.2.length * q ≤ 16 * 32 := Nat.mul_le_mul hk1.2 (by omega)
          have hrl := rowsTo_len (s := ls.length) hrow (i := q) (by rw [List.length_map]; omega)
          have hq3 : q * (l0.2.length * 3) ≤ 32 * 48 := Nat.mul_le_mul (by omega) (by omega)
          have hcl := cellsTo_len ls.length l0.2.length q xr c
          refine Ops.to rfl ?_
          refine Cd.cond_t rfl ?_
          refine Cd.skipTo rfl ?_
          refine Cd.seq ?_
          refine Cd.block ?_
          refine Cd.seq ?_
          refine Cd.region ?_
          refine Ops.q (q_mv rfl) ?_
          refine Ops.q (q_mv rfl) ?_
          refine Ops.q (q_mv rfl) ?_
          refine Ops.q (q_ar (v := ((l0.2.length * q : Nat) : Int)) rfl rfl ((by rw [a_mul (by rw [← Int.natCast_mul]; omega), ← Int.natCast_mul]))) ?_
          refine Ops.q (q_ar (v := ((ls.length + l0.2.length * q : Nat) : Int)) rfl rfl ((by rw [a_add (by omega)]; rfl))) ?_
          refine Ops.q (q_mv rfl) ?_
          refine Ops.q (q_ar (v := ((ls.length + l0.2.length * q + c : Nat) : Int)) rfl rfl ((by rw [a_add (by omega)]; rfl))) ?_
          refine Ops.q (q_asg rfl) ?_
          refine Ops.to rfl ?_
          refine Cd.seq ?_
          refine Cd.region ?_
          refine Ops.q (q_ldBN [.slice pa ((mNs ls.length l0.2.length (ls.length + ls.length * l0.2.length + 1)).length) pc, .int .i64 ((l0.2.length + 1 : Nat) : Int), .slice ra ((((([] : List Syn) ++ [(⟨-1 - (l0.2.length : Int), st, 1, 1⟩ : Syn)]) ++ rowsTo ls.length l0.2.length (ls.map (·.2)) q) ++ cellsTo ls.length l0.2.length q xr c).length) rc] isA_32 sz_32 rfl .here rfl) ?_
          refine Ops.q (q_mv rfl) ?_
          refine Ops.q (q_mv rfl) ?_
          refine Ops.cm (α := Option Addr × Nat) (v := fun p => .agg [.slice pa ((mNs ls.length l0.2.length (ls.length + ls.length * l0.2.length + 1)).length) pc, .int .i64 ((l0.2.length + 1 : Nat) : Int), .slice p.1 ((((([] : List Syn) ++ [(⟨-1 - (l0.2.length : Int), st, 1, 1⟩ : Syn)]) ++ rowsTo ls.length l0.2.length (ls.map (·.2)) q) ++ cellsTo ls.length l0.2.length q xr c) ++ [(⟨(q : Int), ((ls.length + l0.2.length * q + c : Nat) : Int), 1, 1⟩ : Syn)]).length p.2].toArray) (A' := fun p => row p.1 p.2 126 4 ((((([] : List Syn) ++ [(⟨-1 - (l0.2.length : Int), st, 1, 1⟩ : Syn)]) ++ rowsTo ls.length l0.2.length (ls.map (·.2)) q) ++ cellsTo ls.length l0.2.length q xr c) ++ [(⟨(q : Int), ((ls.length + l0.2.length * q + c : Nat) : Int), 1, 1⟩ : Syn)]).length (((((([] : List Syn) ++ [(⟨-1 - (l0.2.length : Int), st, 1, 1⟩ : Syn)]) ++ rowsTo ls.length l0.2.length (ls.map (·.2)) q) ++ cellsTo ls.length l0.2.length q xr c) ++ [(⟨(q : Int), ((ls.length + l0.2.length * q + c : Nat) : Int), 1, 1⟩ : Syn)]).flatMap eSyn) :: [blk b9 32 [.slice pa ((mNs ls.length l0.2.length (ls.length + ls.length * l0.2.length + 1)).length) pc, .int .i64 ((l0.2.length + 1 : Nat) : Int), .slice ra ((((([] : List Syn) ++ [(⟨-1 - (l0.2.length : Int), st, 1, 1⟩ : Syn)]) ++ rowsTo ls.length l0.2.length (ls.map (·.2)) q) ++ cellsTo ls.length l0.2.length q xr c).length) rc], row pa pc 116 8 ((mNs ls.length l0.2.length (ls.length + ls.length * l0.2.length + 1)).length) ((mNs ls.length l0.2.length (ls.length + ls.length * l0.2.length + 1)).flatMap ePrm), blk b1 25 [.slice (some ⟨nb, no, none⟩) ls.length nc, .int .i64 st, .slice aa acc.length ac], blk b2 32 [.slice none 0 0, .int .i64 0, .slice none 0 0]]) en_55 rfl (fun w hs => wire_c _ _ _ ((l0.2.length + 1 : Nat) : Int) _ _ (((([] : List Syn) ++ [(⟨-1 - (l0.2.length : Int), st, 1, 1⟩ : Syn)]) ++ rowsTo ls.length l0.2.length (ls.map (·.2)) q) ++ cellsTo ls.length l0.2.length q xr c) (q : Int) ((ls.length + l0.2.length * q + c : Nat) : Int) 1 1 _ w _ (by simp only [List.length_append, List.length_cons, List.length_nil, hrl, hcl]; omega) ((((((hs.pull (.there (.there (.there (.there .here))))).pull (.there (.there (.there (.there .here))))).pull (.there (.there (.there .here)))).pull (.there (.there (.there .here)))).pull (.there (.there (.there (.there .here))))))) ?_
          rintro ⟨a43, c44⟩
          refine Ops.stB [.slice pa ((mNs ls.length l0.2.length (ls.length + ls.length * l0.2.length + 1)).length) pc, .int .i64 ((l0.2.length + 1 : Nat) : Int), .slice a43 (((((([] : List Syn) ++ [(⟨-1 - (l0.2.length : Int), st, 1, 1⟩ : Syn)]) ++ rowsTo ls.length l0.2.length (ls.map (·.2)) q) ++ cellsTo ls.length l0.2.length q xr c) ++ [(⟨(q : Int), ((ls.length + l0.2.length * q + c : Nat) : Int), 1, 1⟩ : Syn)]).length) c44] [.slice pa ((mNs ls.length l0.2.length (ls.length + ls.length * l0.2.length + 1)).length) pc, .int .i64 ((l0.2.length + 1 : Nat) : Int), .slice a43 (((((([] : List Syn) ++ [(⟨-1 - (l0.2.length : Int), st, 1, 1⟩ : Syn)]) ++ rowsTo ls.length l0.2.length (ls.map (·.2)) q) ++ cellsTo ls.length l0.2.length q xr c) ++ [(⟨(q : Int), ((ls.length + l0.2.length * q + c : Nat) : Int), 1, 1⟩ : Syn)]).length) c44] sz_32 rfl rfl rfl (one rfl) (.there .here) rfl rfl ?_
          refine Ops.to rfl ?_
          refine Cd.seq ?_
          refine Cd.draw rfl (by kernel_rfl) (.cons (.there .here) .nil) ?_
          intro F45 St46 hP47 hF48 hR49
          refine Dr.q (i := 0) hP47 rfl (by kernel_rfl) (q_ldBN [.slice pa ((mNs ls.length l0.2.length (ls.length + ls.length * l0.2.length + 1)).length) pc, .int .i64 ((l0.2.length + 1 : Nat) : Int), .slice a43 (((((([] : List Syn) ++ [(⟨-1 - (l0.2.length : Int), st, 1, 1⟩ : Syn)]) ++ rowsTo ls.length l0.2.length (ls.map (·.2)) q) ++ cellsTo ls.length l0.2.length q xr c) ++ [(⟨(q : Int), ((ls.length + l0.2.length * q + c : Nat) : Int), 1, 1⟩ : Syn)]).length) c44] isA_32 sz_32 rfl .here rfl) ?_
          refine Dr.q (i := 1) hP47 rfl (by kernel_rfl) (q_mv rfl) ?_
          refine Dr.q (i := 3) hP47 rfl (by kernel_rfl) (q_mv rfl) ?_
          refine Dr.e (i := 2) rfl (by kernel_rfl) ?_
          refine Ops.cp en_56 rfl (fun w hs => rinput_c (c : Int) w (by omega)) ?_
          refine Dr.back (fun _ hs => hF48 .here hs) ?_
          refine Dr.e (i := 4) rfl (by kernel_rfl) ?_
          refine Ops.cm (α := Option Addr × Nat) (v := fun p => .agg [.slice pa ((mNs ls.length l0.2.length (ls.length + ls.length * l0.2.length + 1)).length) pc, .int .i64 ((l0.2.length + 1 : Nat) : Int), .slice p.1 (((((([] : List Syn) ++ [(⟨-1 - (l0.2.length : Int), st, 1, 1⟩ : Syn)]) ++ rowsTo ls.length l0.2.length (ls.map (·.2)) q) ++ cellsTo ls.length l0.2.length q xr c) ++ [(⟨(q : Int), ((ls.length + l0.2.length * q + c : Nat) : Int), 1, 1⟩ : Syn)]) ++ [(⟨-1 - (c : Int), ((ls.length + l0.2.length * q + c : Nat) : Int), 1, 2⟩ : Syn)]).length p.2].toArray) (A' := fun p => row p.1 p.2 126 4 (((((([] : List Syn) ++ [(⟨-1 - (l0.2.length : Int), st, 1, 1⟩ : Syn)]) ++ rowsTo ls.length l0.2.length (ls.map (·.2)) q) ++ cellsTo ls.length l0.2.length q xr c) ++ [(⟨(q : Int), ((ls.length + l0.2.length * q + c : Nat) : Int), 1, 1⟩ : Syn)]) ++ [(⟨-1 - (c : Int), ((ls.length + l0.2.length * q + c : Nat) : Int), 1, 2⟩ : Syn)]).length ((((((([] : List Syn) ++ [(⟨-1 - (l0.2.length : Int), st, 1, 1⟩ : Syn)]) ++ rowsTo ls.length l0.2.length (ls.map (·.2)) q) ++ cellsTo ls.length l0.2.length q xr c) ++ [(⟨(q : Int), ((ls.length + l0.2.length * q + c : Nat) : Int), 1, 1⟩ : Syn)]) ++ [(⟨-1 - (c : Int), ((ls.length + l0.2.length * q + c : Nat) : Int), 1, 2⟩ : Syn)]).flatMap eSyn) :: [F45, row pa pc 116 8 ((mNs ls.length l0.2.length (ls.length + ls.length * l0.2.length + 1)).length) ((mNs ls.length l0.2.length (ls.length + ls.length * l0.2.length + 1)).flatMap ePrm), blk b1 25 [.slice (some ⟨nb, no, none⟩) ls.length nc, .int .i64 st, .slice aa acc.length ac], blk b2 32 [.slice none 0 0, .int .i64 0, .slice none 0 0]]) en_55 rfl (fun w hs => wire_c _ _ _ ((l0.2.length + 1 : Nat) : Int) _ _ ((((([] : List Syn) ++ [(⟨-1 - (l0.2.length : Int), st, 1, 1⟩ : Syn)]) ++ rowsTo ls.length l0.2.length (ls.map (·.2)) q) ++ cellsTo ls.length l0.2.length q xr c) ++ [(⟨(q : Int), ((ls.length + l0.2.length * q + c : Nat) : Int), 1, 1⟩ : Syn)]) (-1 - (c : Int)) ((ls.length + l0.2.length * q + c : Nat) : Int) 1 2 _ w _ (by simp only [List.length_append, List.length_cons, List.length_nil, hrl, hcl]; omega) ((((((hs.pull (.there (.there (.there (.there .here))))).pull (.there (.there (.there (.there .here))))).pull (.there (.there (.there (.there .here))))).pull (.there (.there (.there .here)))).pull (.there (.there (.there (.there .here))))))) ?_
          rintro ⟨a50, c51⟩
          refine Dr.back (fun _ hs => hF48 (.there .here) hs) ?_
          refine Dr.tail 5 (by kernel_rfl) ?_
          refine Ops.sat ?_ (fun _ hs => hR49 (.there .here) hs)
          refine Ops.stB [.slice pa ((mNs ls.length l0.2.length (ls.length + ls.length * l0.2.length + 1)).length) pc, .int .i64 ((l0.2.length + 1 : Nat) : Int), .slice a50 ((((((([] : List Syn) ++ [(⟨-1 - (l0.2.length : Int), st, 1, 1⟩ : Syn)]) ++ rowsTo ls.length l0.2.length (ls.map (·.2)) q) ++ cellsTo ls.length l0.2.length q xr c) ++ [(⟨(q : Int), ((ls.length + l0.2.length * q + c : Nat) : Int), 1, 1⟩ : Syn)]) ++ [(⟨-1 - (c : Int), ((ls.length + l0.2.length * q + c : Nat) : Int), 1, 2⟩ : Syn)]).length) c51] [.slice pa ((mNs ls.length l0.2.length (ls.length + ls.length * l0.2.length + 1)).length) pc, .int .i64 ((l0.2.length + 1 : Nat) : Int), .slice a50 ((((((([] : List Syn) ++ [(⟨-1 - (l0.2.length : Int), st, 1, 1⟩ : Syn)]) ++ rowsTo ls.length l0.2.length (ls.map (·.2)) q) ++ cellsTo ls.length l0.2.length q xr c) ++ [(⟨(q : Int), ((ls.length + l0.2.length * q + c : Nat) : Int), 1, 1⟩ : Syn)]) ++ [(⟨-1 - (c : Int), ((ls.length + l0.2.length * q + c : Nat) : Int), 1, 2⟩ : Syn)]).length) c51] sz_32 rfl rfl rfl (one rfl) .here rfl rfl ?_
          refine Ops.to rfl ?_
          refine Cd.draw rfl (by kernel_rfl) (.cons .here (.cons (.there (.there .here)) .nil)) ?_
          intro F52 St53 hP54 hF55 hR56
          refine Dr.q (i := 0) hP54 rfl (by kernel_rfl) (q_ldBN [.slice pa ((mNs ls.length l0.2.length (ls.length + ls.length * l0.2.length + 1)).length) pc, .int .i64 ((l0.2.length + 1 : Nat) : Int), .slice a50 ((((((([] : List Syn) ++ [(⟨-1 - (l0.2.length : Int), st, 1, 1⟩ : Syn)]) ++ rowsTo ls.length l0.2.length (ls.map (·.2)) q) ++ cellsTo ls.length l0.2.length q xr c) ++ [(⟨(q : Int), ((ls.length + l0.2.length * q + c : Nat) : Int), 1, 1⟩ : Syn)]) ++ [(⟨-1 - (c : Int), ((ls.length + l0.2.length * q + c : Nat) : Int), 1, 2⟩ : Syn)]).length) c51] isA_32 sz_32 rfl .here rfl) ?_
          refine Dr.q (i := 1) hP54 rfl (by kernel_rfl) (q_mv rfl) ?_
          refine Dr.q (i := 2) hP54 rfl (by kernel_rfl) (q_fa fo_25_0 rfl) ?_
          refine Dr.q (i := 3) hP54 rfl (by kernel_rfl) (q_ldB isA_22 rfl (.there .here) rfl) ?_
          refine Dr.q (i := 4) hP54 rfl (by kernel_rfl) (q_mv rfl) ?_
          refine Dr.q (i := 5) hP54 rfl (by kernel_rfl) (q_ix (k := q) esz_22 rfl rfl (by omega)) ?_
          refine Dr.q (i := 6) hP54 rfl (by kernel_rfl) (q_ldR (v := .slice (some ⟨xb, xo, none⟩) xr.length xc) isA_26 rfl (hL.1.at0 eNL_len hx rfl)) ?_
          refine Dr.q (i := 7) hP54 rfl (by kernel_rfl) (q_mv rfl) ?_
          refine Dr.q (i := 8) hP54 rfl (by kernel_rfl) (q_ix (k := c) esz_26 rfl rfl (by omega)) ?_
          refine Dr.q (i := 9) hP54 rfl (by kernel_rfl) (q_ldR isA_3 rfl (hxe.at0 eInt_len hx42 rfl)) ?_
          refine Dr.e (i := 10) rfl (by kernel_rfl) ?_
          refine Ops.cm (α := Option Addr × Nat) (v := fun p => .agg [.slice pa ((mNs ls.length l0.2.length (ls.length + ls.length * l0.2.length + 1)).length) pc, .int .i64 ((l0.2.length + 1 : Nat) : Int), .slice p.1 ((((((([] : List Syn) ++ [(⟨-1 - (l0.2.length : Int), st, 1, 1⟩ : Syn)]) ++ rowsTo ls.length l0.2.length (ls.map (·.2)) q) ++ cellsTo ls.length l0.2.length q xr c) ++ [(⟨(q : Int), ((ls.length + l0.2.length * q + c : Nat) : Int), 1, 1⟩ : Syn)]) ++ [(⟨-1 - (c : Int), ((ls.length + l0.2.length * q + c : Nat) : Int), 1, 2⟩ : Syn)]) ++ [(⟨((ls.length + l0.2.length * q + c : Nat) : Int), x41, 1, 2⟩ : Syn)]).length p.2].toArray) (A' := fun p => row p.1 p.2 126 4 ((((((([] : List Syn) ++ [(⟨-1 - (l0.2.length : Int), st, 1, 1⟩ : Syn)]) ++ rowsTo ls.length l0.2.length (ls.map (·.2)) q) ++ cellsTo ls.length l0.2.length q xr c) ++ [(⟨(q : Int), ((ls.length + l0.2.length * q + c : Nat) : Int), 1, 1⟩ : Syn)]) ++ [(⟨-1 - (c : Int), ((ls.length + l0.2.length * q + c : Nat) : Int), 1, 2⟩ : Syn)]) ++ [(⟨((ls.length + l0.2.length * q + c : Nat) : Int), x41, 1, 2⟩ : Syn)]).length (((((((([] : List Syn) ++ [(⟨-1 - (l0.2.length : Int), st, 1, 1⟩ : Syn)]) ++ rowsTo ls.length l0.2.length (ls.map (·.2)) q) ++ cellsTo ls.length l0.2.length q xr c) ++ [(⟨(q : Int), ((ls.length + l0.2.length * q + c : Nat) : Int), 1, 1⟩ : Syn)]) ++ [(⟨-1 - (c : Int), ((ls.length + l0.2.length * q + c : Nat) : Int), 1, 2⟩ : Syn)]) ++ [(⟨((ls.length + l0.2.length * q + c : Nat) : Int), x41, 1, 2⟩ : Syn)]).flatMap eSyn) :: [F52, row pa pc 116 8 ((mNs ls.length l0.2.length (ls.length + ls.length * l0.2.length + 1)).length) ((mNs ls.length l0.2.length (ls.length + ls.length * l0.2.length + 1)).flatMap ePrm), blk b2 32 [.slice none 0 0, .int .i64 0, .slice none 0 0]]) en_55 rfl (fun w hs => wire_c _ _ _ ((l0.2.length + 1 : Nat) : Int) _ _ (((((([] : List Syn) ++ [(⟨-1 - (l0.2.length : Int), st, 1, 1⟩ : Syn)]) ++ rowsTo ls.length l0.2.length (ls.map (·.2)) q) ++ cellsTo ls.length l0.2.length q xr c) ++ [(⟨(q : Int), ((ls.length + l0.2.length * q + c : Nat) : Int), 1, 1⟩ : Syn)]) ++ [(⟨-1 - (c : Int), ((ls.length + l0.2.length * q + c : Nat) : Int), 1, 2⟩ : Syn)]) ((ls.length + l0.2.length * q + c : Nat) : Int) x41 1 2 _ w _ (by simp only [List.length_append, List.length_cons, List.length_nil, hrl, hcl]; omega) (((((hs.pull (.there (.there (.there .here)))).pull (.there (.there (.there .here)))).pull (.there (.there .here))).pull (.there (.there (.there .here)))))) ?_
          rintro ⟨a57, c58⟩
          refine Dr.back (fun _ hs => hF55 (.there .here) hs) ?_
          refine Dr.tail 11 (by kernel_rfl) ?_
          refine Ops.sat ?_ (fun _ hs => hR56 (.there .here) hs)
          refine Ops.stB [.slice pa ((mNs ls.length l0.2.length (ls.length + ls.length * l0.2.length + 1)).length) pc, .int .i64 ((l0.2.length + 1 : Nat) : Int), .slice a57 (((((((([] : List Syn) ++ [(⟨-1 - (l0.2.length : Int), st, 1, 1⟩ : Syn)]) ++ rowsTo ls.length l0.2.length (ls.map (·.2)) q) ++ cellsTo ls.length l0.2.length q xr c) ++ [(⟨(q : Int), ((ls.length + l0.2.length * q + c : Nat) : Int), 1, 1⟩ : Syn)]) ++ [(⟨-1 - (c : Int), ((ls.length + l0.2.length * q + c : Nat) : Int), 1, 2⟩ : Syn)]) ++ [(⟨((ls.length + l0.2.length * q + c : Nat) : Int), x41, 1, 2⟩ : Syn)]).length) c58] [.slice pa ((mNs ls.length l0.2.length (ls.length + ls.length * l0.2.length + 1)).length) pc, .int .i64 ((l0.2.length + 1 : Nat) : Int), .slice a57 (((((((([] : List Syn) ++ [(⟨-1 - (l0.2.length : Int), st, 1, 1⟩ : Syn)]) ++ rowsTo ls.length l0.2.length (ls.map (·.2)) q) ++ cellsTo ls.length l0.2.length q xr c) ++ [(⟨(q : Int), ((ls.length + l0.2.length * q + c : Nat) : Int), 1, 1⟩ : Syn)]) ++ [(⟨-1 - (c : Int), ((ls.length + l0.2.length * q + c : Nat) : Int), 1, 2⟩ : Syn)]) ++ [(⟨((ls.length + l0.2.length * q + c : Nat) : Int), x41, 1, 2⟩ : Syn)]).length) c58] sz_32 rfl rfl rfl (one rfl) .here rfl rfl ?_
          refine Ops.to rfl ?_
          refine Cd.region ?_
          refine Ops.q (q_mv rfl) ?_
          refine Ops.q (q_ar rfl rfl (a_inc (by omega))) ?_
          refine Ops.q (q_asg rfl) ?_
          refine Ops.rnd ((c + 1, a57, c58)) rfl (by dsimp only; exact (by omega)) (by dsimp only; omega) ⟨rfl, rfl, rfl, rfl, rfl, rfl, rfl, trivial⟩ (fun _ hs => by have h1 := (((((hs.pull (.there (.there (.there (.there .here))))).pull (.there (.there .here))).pull (.there (.there (.there .here)))).pull (.there (.there (.there (.there .here))))).pull (.there (.there (.there (.there .here))))); dsimp only; rw [cells_step hx42]; exact h1) 
        · refine Ops.q (q_cmp rfl rfl (c_nlt (by omega))) ?_
          refine Ops.to rfl ?_
          refine Cd.cond_f rfl ?_
          refine Cd.exitTo rfl ?_
          refine Cd.region ?_
          refine Ops.q (q_mv rfl) ?_
          refine Ops.q (q_ar rfl rfl (a_inc (by omega))) ?_
          refine Ops.q (q_asg rfl) ?_
          refine Ops.rnd ((q + 1, ra, rc)) rfl (by dsimp only; exact (by omega)) (by dsimp only; omega) ⟨rfl, rfl, rfl, rfl, rfl, rfl, trivial⟩ (fun _ hs => by have h1 := (((((hs.pull (.there (.there (.there (.there .here))))).pull (.there (.there (.there (.there .here))))).pull (.there (.there (.there (.there .here))))).pull (.there (.there (.there (.there .here))))).pull (.there (.there (.there (.there .here))))); have hce : c = xr.length := (by omega); rw [hce] at h1; dsimp only; rw [rows_step hxq]; exact h1) 
      · refine Ops.q (q_cmp rfl rfl (c_nlt (by omega))) ?_
        have hqe : q = ls.length := by omega
        rw [hqe]
        refine Ops.to rfl ?_
        refine Cd.cond_f rfl ?_
        refine Cd.exitTo rfl ?_
        refine Cd.seq ?_
        refine Cd.seq ?_
        refine Cd.region ?_
        refine Ops.q (q_asg rfl) ?_
        refine Ops.to rfl ?_
        refine Cd.block ?_
        refine Cd.lp (σ := Nat × Option Addr × Nat) (fun s => s.1 ≤ ls.length) (fun s => [(1, .pointer (some ⟨b1, 0, none⟩)), (2, .pointer (some ⟨b2, 0, none⟩)), (5, .int .i64 (ls.length : Int)), (6, .int .i64 (l0.2.length : Int)), (7, .pointer (some ⟨b9, 0, none⟩)), (13, .int .i64 (s.1 : Int))]) (fun s => [blk b9 32 [.slice pa ((mNs ls.length l0.2.length (ls.length + ls.length * l0.2.length + 1)).length) pc, .int .i64 ((l0.2.length + 1 : Nat) : Int), .slice s.2.1 ((((([] : List Syn) ++ [(⟨-1 - (l0.2.length : Int), st, 1, 1⟩ : Syn)]) ++ rowsTo ls.length l0.2.length (ls.map (·.2)) ls.length) ++ accTo ls.length l0.2.length acc s.1).length) s.2.2], row pa pc 116 8 ((mNs ls.length l0.2.length (ls.length + ls.length * l0.2.length + 1)).length) ((mNs ls.length l0.2.length (ls.length + ls.length * l0.2.length + 1)).flatMap ePrm), row s.2.1 s.2.2 126 4 ((((([] : List Syn) ++ [(⟨-1 - (l0.2.length : Int), st, 1, 1⟩ : Syn)]) ++ rowsTo ls.length l0.2.length (ls.map (·.2)) ls.length) ++ accTo ls.length l0.2.length acc s.1).length) ((((([] : List Syn) ++ [(⟨-1 - (l0.2.length : Int), st, 1, 1⟩ : Syn)]) ++ rowsTo ls.length l0.2.length (ls.map (·.2)) ls.length) ++ accTo ls.length l0.2.length acc s.1).flatMap eSyn), blk b1 25 [.slice (some ⟨nb, no, none⟩) ls.length nc, .int .i64 st, .slice aa acc.length ac], blk b2 32 [.slice none 0 0, .int .i64 0, .slice none 0 0]]) (fun s => ls.length - s.1) (0, qa, qc) (Nat.zero_le _) ⟨rfl, rfl, rfl, rfl, rfl, rfl, trivial⟩ (fun _ hs => by have h1 := (((((hs.pull (.there (.there (.there (.there .here))))).pull (.there (.there (.there (.there .here))))).pull (.there (.there (.there (.there .here))))).pull (.there (.there (.there (.there .here))))).pull (.there (.there (.there (.there .here))))); (try dsimp only); rw [show (((([] : List Syn) ++ [(⟨-1 - (l0.2.length : Int), st, 1, 1⟩ : Syn)]) ++ rowsTo ls.length l0.2.length (ls.map (·.2)) ls.length) ++ accTo ls.length l0.2.length acc 0) = ((([] : List Syn) ++ [(⟨-1 - (l0.2.length : Int), st, 1, 1⟩ : Syn)]) ++ rowsTo ls.length l0.2.length (ls.map (·.2)) ls.length) from List.append_nil _]; exact h1) ?_
        rintro ⟨q, ra, rc⟩ hI
        dsimp only at hI
        change Cd _ _ _ _ _ _ _ [(1, .pointer (some ⟨b1, 0, none⟩)), (2, .pointer (some ⟨b2, 0, none⟩)), (5, .int .i64 (ls.length : Int)), (6, .int .i64 (l0.2.length : Int)), (7, .pointer (some ⟨b9, 0, none⟩)), (13, .int .i64 (q : Int))] ([blk b9 32 [.slice pa ((mNs ls.length l0.2.length (ls.length + ls.length * l0.2.length + 1)).length) pc, .int .i64 ((l0.2.length + 1 : Nat) : Int), .slice ra ((((([] : List Syn) ++ [(⟨-1 - (l0.2.length : Int), st, 1, 1⟩ : Syn)]) ++ rowsTo ls.length l0.2.length (ls.map (·.2)) ls.length) ++ accTo ls.length l0.2.length acc q).length) rc], row pa pc 116 8 ((mNs ls.length l0.2.length (ls.length + ls.length * l0.2.length + 1)).length) ((mNs ls.length l0.2.length (ls.length + ls.length * l0.2.length + 1)).flatMap ePrm), row ra rc 126 4 ((((([] : List Syn) ++ [(⟨-1 - (l0.2.length : Int), st, 1, 1⟩ : Syn)]) ++ rowsTo ls.length l0.2.length (ls.map (·.2)) ls.length) ++ accTo ls.length l0.2.length acc q).length) ((((([] : List Syn) ++ [(⟨-1 - (l0.2.length : Int), st, 1, 1⟩ : Syn)]) ++ rowsTo ls.length l0.2.length (ls.map (·.2)) ls.length) ++ accTo ls.length l0.2.length acc q).flatMap eSyn), blk b1 25 [.slice (some ⟨nb, no, none⟩) ls.length nc, .int .i64 st, .slice aa acc.length ac], blk b2 32 [.slice none 0 0, .int .i64 0, .slice none 0 0]])
        refine Cd.seq ?_
        refine Cd.seq ?_
        refine Cd.region ?_
        refine Ops.q (q_mv rfl) ?_
        refine Ops.q (q_mv rfl) ?_
        by_cases hq6 : (q : Int) < (ls.length : Int)
        · refine Ops.q (q_cmp rfl rfl (c_lt hq6)) ?_
          obtain ⟨x59, hx60⟩ : ∃ x, acc[q]? = some x := ⟨_, List.getElem?_eq_getElem (by omega)⟩
          obtain ⟨ab61, ao62, rfl⟩ := RoL.pos hA eBool_len hx60
          have hrl := rowsTo_len (s := ls.length) hrow (i := ls.length) (by rw [List.length_map]; omega)
          have hq3 : ls.length * (l0.2.length * 3) ≤ 32 * 48 := Nat.mul_le_mul (by omega) (by omega)
          have hacl := accTo_len ls.length l0.2.length acc q
          refine Ops.to rfl ?_
          refine Cd.cond_t rfl ?_
          refine Cd.skipTo rfl ?_
          refine Cd.seq ?_
          refine Cd.block ?_
          refine Cd.seq ?_
          refine Cd.region ?_
          refine Ops.q (q_fa fo_25_2 rfl) ?_
          refine Ops.q (q_ldB isA_23 rfl (.there (.there (.there .here))) rfl) ?_
          refine Ops.q (q_mv rfl) ?_
          refine Ops.q (q_ix (k := q) esz_23 rfl rfl (by omega)) ?_
          refine Ops.q (q_ldR isA_4 rfl (hA.at0 eBool_len hx60 rfl)) ?_
          refine Ops.to rfl ?_
          refine Cd.cond rfl (fun h63 => ?_) (fun h63 => ?_)
          · refine Cd.region ?_
            refine Ops.q (q_ldBN [.slice pa ((mNs ls.length l0.2.length (ls.length + ls.length * l0.2.length + 1)).length) pc, .int .i64 ((l0.2.length + 1 : Nat) : Int), .slice ra ((((([] : List Syn) ++ [(⟨-1 - (l0.2.length : Int), st, 1, 1⟩ : Syn)]) ++ rowsTo ls.length l0.2.length (ls.map (·.2)) ls.length) ++ accTo ls.length l0.2.length acc q).length) rc] isA_32 sz_32 rfl .here rfl) ?_
            refine Ops.q (q_mv rfl) ?_
            refine Ops.q (q_mv rfl) ?_
            refine Ops.q (q_mv rfl) ?_
            refine Ops.q (q_mv rfl) ?_
            refine Ops.q (q_ar (v := ((ls.length * l0.2.length : Nat) : Int)) rfl rfl ((by rw [a_mul (by rw [← Int.natCast_mul]; omega), ← Int.natCast_mul]))) ?_
            refine Ops.q (q_ar (v := ((ls.length + ls.length * l0.2.length : Nat) : Int)) rfl rfl ((by rw [a_add (by omega)]; rfl))) ?_
            refine Ops.cm (α := Option Addr × Nat) (v := fun p => .agg [.slice pa ((mNs ls.length l0.2.length (ls.length + ls.length * l0.2.length + 1)).length) pc, .int .i64 ((l0.2.length + 1 : Nat) : Int), .slice p.1 ((((([] : List Syn) ++ [(⟨-1 - (l0.2.length : Int), st, 1, 1⟩ : Syn)]) ++ rowsTo ls.length l0.2.length (ls.map (·.2)) ls.length) ++ accTo ls.length l0.2.length acc q) ++ [(⟨(q : Int), ((ls.length + ls.length * l0.2.length : Nat) : Int), 1, 1⟩ : Syn)]).length p.2].toArray) (A' := fun p => row p.1 p.2 126 4 ((((([] : List Syn) ++ [(⟨-1 - (l0.2.length : Int), st, 1, 1⟩ : Syn)]) ++ rowsTo ls.length l0.2.length (ls.map (·.2)) ls.length) ++ accTo ls.length l0.2.length acc q) ++ [(⟨(q : Int), ((ls.length + ls.length * l0.2.length : Nat) : Int), 1, 1⟩ : Syn)]).length (((((([] : List Syn) ++ [(⟨-1 - (l0.2.length : Int), st, 1, 1⟩ : Syn)]) ++ rowsTo ls.length l0.2.length (ls.map (·.2)) ls.length) ++ accTo ls.length l0.2.length acc q) ++ [(⟨(q : Int), ((ls.length + ls.length * l0.2.length : Nat) : Int), 1, 1⟩ : Syn)]).flatMap eSyn) :: [blk b9 32 [.slice pa ((mNs ls.length l0.2.length (ls.length + ls.length * l0.2.length + 1)).length) pc, .int .i64 ((l0.2.length + 1 : Nat) : Int), .slice ra ((((([] : List Syn) ++ [(⟨-1 - (l0.2.length : Int), st, 1, 1⟩ : Syn)]) ++ rowsTo ls.length l0.2.length (ls.map (·.2)) ls.length) ++ accTo ls.length l0.2.length acc q).length) rc], row pa pc 116 8 ((mNs ls.length l0.2.length (ls.length + ls.length * l0.2.length + 1)).length) ((mNs ls.length l0.2.length (ls.length + ls.length * l0.2.length + 1)).flatMap ePrm), blk b1 25 [.slice (some ⟨nb, no, none⟩) ls.length nc, .int .i64 st, .slice (some ⟨ab61, ao62, none⟩) acc.length ac], blk b2 32 [.slice none 0 0, .int .i64 0, .slice none 0 0]]) en_55 rfl (fun w hs => wire_c _ _ _ ((l0.2.length + 1 : Nat) : Int) _ _ (((([] : List Syn) ++ [(⟨-1 - (l0.2.length : Int), st, 1, 1⟩ : Syn)]) ++ rowsTo ls.length l0.2.length (ls.map (·.2)) ls.length) ++ accTo ls.length l0.2.length acc q) (q : Int) ((ls.length + ls.length * l0.2.length : Nat) : Int) 1 1 _ w _ (by simp only [List.length_append, List.length_cons, List.length_nil, hrl]; omega) ((((((hs.pull (.there (.there (.there (.there .here))))).pull (.there (.there (.there (.there .here))))).pull (.there (.there (.there .here)))).pull (.there (.there (.there .here)))).pull (.there (.there (.there (.there .here))))))) ?_
            rintro ⟨a64, c65⟩
            refine Ops.stB [.slice pa ((mNs ls.length l0.2.length (ls.length + ls.length * l0.2.length + 1)).length) pc, .int .i64 ((l0.2.length + 1 : Nat) : Int), .slice a64 (((((([] : List Syn) ++ [(⟨-1 - (l0.2.length : Int), st, 1, 1⟩ : Syn)]) ++ rowsTo ls.length l0.2.length (ls.map (·.2)) ls.length) ++ accTo ls.length l0.2.length acc q) ++ [(⟨(q : Int), ((ls.length + ls.length * l0.2.length : Nat) : Int), 1, 1⟩ : Syn)]).length) c65] [.slice pa ((mNs ls.length l0.2.length (ls.length + ls.length * l0.2.length + 1)).length) pc, .int .i64 ((l0.2.length + 1 : Nat) : Int), .slice a64 (((((([] : List Syn) ++ [(⟨-1 - (l0.2.length : Int), st, 1, 1⟩ : Syn)]) ++ rowsTo ls.length l0.2.length (ls.map (·.2)) ls.length) ++ accTo ls.length l0.2.length acc q) ++ [(⟨(q : Int), ((ls.length + ls.length * l0.2.length : Nat) : Int), 1, 1⟩ : Syn)]).length) c65] sz_32 rfl rfl rfl (one rfl) (.there .here) rfl rfl ?_
            refine Ops.to rfl ?_
            refine Cd.region ?_
            refine Ops.q (q_mv rfl) ?_
            refine Ops.q (q_ar rfl rfl (a_inc (by omega))) ?_
            refine Ops.q (q_asg rfl) ?_
            refine Ops.rnd ((q + 1, a64, c65)) rfl (by dsimp only; exact (by omega)) (by dsimp only; omega) ⟨rfl, rfl, rfl, rfl, rfl, rfl, trivial⟩ (fun _ hs => by have h1 := (((((hs.pull (.there (.there (.there (.there .here))))).pull (.there (.there (.there (.there .here))))).pull (.there (.there .here))).pull (.there (.there (.there (.there .here))))).pull (.there (.there (.there (.there .here))))); dsimp only; rw [acc_step hx60, if_pos h63]; exact h1) 
          · refine Cd.skipTo rfl ?_
            refine Cd.region ?_
            refine Ops.q (q_mv rfl) ?_
            refine Ops.q (q_ar rfl rfl (a_inc (by omega))) ?_
            refine Ops.q (q_asg rfl) ?_
            refine Ops.rnd ((q + 1, ra, rc)) rfl (by dsimp only; exact (by omega)) (by dsimp only; omega) ⟨rfl, rfl, rfl, rfl, rfl, rfl, trivial⟩ (fun _ hs => by have h1 := (((((hs.pull (.there (.there (.there (.there .here))))).pull (.there (.there (.there (.there .here))))).pull (.there (.there (.there (.there .here))))).pull (.there (.there (.there (.there .here))))).pull (.there (.there (.there (.there .here))))); dsimp only; rw [acc_step hx60, if_neg (by simp [h63]), List.append_nil]; exact h1) 
        · refine Ops.q (q_cmp rfl rfl (c_nlt (by omega))) ?_
          refine Ops.to rfl ?_
          refine Cd.cond_f rfl ?_
          refine Cd.exitTo rfl ?_
          refine Cd.seq ?_
          refine Cd.region ?_
          refine Ops.q (q_ldBN [.slice pa ((mNs ls.length l0.2.length (ls.length + ls.length * l0.2.length + 1)).length) pc, .int .i64 ((l0.2.length + 1 : Nat) : Int), .slice ra ((((([] : List Syn) ++ [(⟨-1 - (l0.2.length : Int), st, 1, 1⟩ : Syn)]) ++ rowsTo ls.length l0.2.length (ls.map (·.2)) ls.length) ++ accTo ls.length l0.2.length acc q).length) rc] isA_32 sz_32 rfl .here rfl) ?_
          refine Ops.stB [.slice pa ((mNs ls.length l0.2.length (ls.length + ls.length * l0.2.length + 1)).length) pc, .int .i64 ((l0.2.length + 1 : Nat) : Int), .slice ra ((((([] : List Syn) ++ [(⟨-1 - (l0.2.length : Int), st, 1, 1⟩ : Syn)]) ++ rowsTo ls.length l0.2.length (ls.map (·.2)) ls.length) ++ accTo ls.length l0.2.length acc q).length) rc] [.slice pa ((mNs ls.length l0.2.length (ls.length + ls.length * l0.2.length + 1)).length) pc, .int .i64 ((l0.2.length + 1 : Nat) : Int), .slice ra ((((([] : List Syn) ++ [(⟨-1 - (l0.2.length : Int), st, 1, 1⟩ : Syn)]) ++ rowsTo ls.length l0.2.length (ls.map (·.2)) ls.length) ++ accTo ls.length l0.2.length acc q).length) rc] sz_32 rfl rfl rfl (one rfl) (.there (.there (.there (.there .here)))) rfl rfl ?_
          refine Ops.q (q_asg rfl) ?_
          refine Ops.to rfl ?_
          refine Cd.rt (fn := Try.f16) [.agg [.slice pa ((mNs ls.length l0.2.length (ls.length + ls.length * l0.2.length + 1)).length) pc, .int .i64 ((l0.2.length + 1 : Nat) : Int), .slice ra ((((([] : List Syn) ++ [(⟨-1 - (l0.2.length : Int), st, 1, 1⟩ : Syn)]) ++ rowsTo ls.length l0.2.length (ls.map (·.2)) ls.length) ++ accTo ls.length l0.2.length acc q).length) rc].toArray, .int .i64 0] (by with_reducible repeat (first | exact rq_here | apply rq_then | apply rq_block)) rfl ⟨⟨_, _, rfl, fun _ hs => run_loadN isA_32 sz_32 (fun o u hu => Sat.atB (.there (.there (.there (.there .here)))) (by rw [Nat.zero_add]; exact hu) hs)⟩, rfl, trivial⟩ ?_
          intro w' hs'
          have hqe : q = ls.length := by omega
          rw [hqe] at hs'
          have hP : machineP (ls.map (·.2)) st acc = .ok ⟨(mNs ls.length l0.2.length (ls.length + ls.length * l0.2.length + 1)), ((l0.2.length + 1 : Nat) : Int), (((([] : List Syn) ++ [(⟨-1 - (l0.2.length : Int), st, 1, 1⟩ : Syn)]) ++ rowsTo ls.length l0.2.length (ls.map (·.2)) ls.length) ++ accTo ls.length l0.2.length acc ls.length)⟩ := by unfold machineP; rw [if_neg (by simpa using h3)]; unfold machineN; rw [hhd, List.length_map, mNs_end, hal]; rfl
          rw [hP]
          exact ⟨(pa, pc), (ra, rc), by rw [hqe]; rfl, (((((hs'.pull (.there (.there .here))).pull (.there (.there .here))).pull (.there (.there .here))).drop.pull (.there (.there .here))).drop.pull (.there (.there .here))).drop⟩
  · refine Ops.q (q_cmp rfl rfl (c_ne h3)) ?_
    refine Ops.to rfl ?_
    refine Cd.cond_t rfl ?_
    refine Cd.seq ?_
    refine Cd.region ?_
    refine Ops.q (q_bld [.slice none 0 0, .int .i64 0, .slice none 0 0] pls_32 zc_32 rfl rfl) ?_
    refine Ops.q (q_mv rfl) ?_
    refine Ops.stB [.slice none 0 0, .int .i64 0, .slice none 0 0] [.slice none 0 0, .int .i64 0, .slice none 0 0] sz_32 rfl rfl rfl (one rfl) .here rfl rfl ?_
    refine Ops.q (q_asg rfl) ?_
    refine Ops.to rfl ?_
    refine Cd.rt (fn := Try.f16) [.agg [.slice none 0 0, .int .i64 0, .slice none 0 0].toArray, .int .i64 (autoE (ls.map (fun l : NL => l.2)) st acc.length)] (by with_reducible repeat (first | exact rq_here | apply rq_then | apply rq_block)) rfl ⟨⟨_, _, rfl, fun _ hs => run_loadN isA_32 sz_32 (fun o u hu => Sat.atB .here (by rw [Nat.zero_add]; exact hu) hs)⟩, rfl, trivial⟩ ?_
    intro w' hs'
    rw [show machineP (ls.map (·.2)) st acc = .error (autoE (ls.map (·.2)) st acc.length) by unfold machineP; rw [if_pos h3]]
    exact ⟨rfl, hs'.none⟩
end Go.Proofs.Ytilcdghliigngaa
namespace Go.Proofs.Ytilcdghliigngaa
open Go.RowKit Go.Proofs.YtilcdghliigngaaGl Go.Proofs.YtilcdghliigngaaPm
set_option linter.unusedVariables false
set_option linter.unusedSimpArgs false
theorem mpT_166 : mpT Try.prog 166 = some (3, 4) := by kernel_rfl
theorem zero_4 : ∀ w, (zeroValue 4).run Try.prog w = .ok (.bool false) w := fun w => by kernel_rfl
def setE (n : Int) (xs : List Int) : Int := if ∀ x ∈ xs, wi x 0 (n - 1) then (if xs.Nodup then 0 else 5) else 4
def mtk (xs : List Int) : List (Int × Value) := xs.map fun x => (x, .bool true)
theorem findI_mtk (k : Int) : ∀ (xs : List Int) (i : Nat), (k ∈ xs → ∃ j, findI k (mtk xs) i = some (j, .bool true)) ∧ (¬ k ∈ xs → findI k (mtk xs) i = none)
  | [], i => ⟨fun h => by simp at h, fun _ => rfl⟩
  | x :: xs, i => by
    have ih := findI_mtk k xs (i + 1)
    by_cases h : k = x
    · subst h
      exact ⟨fun _ => ⟨i, by simp [mtk, findI]⟩, fun h => by simp at h⟩
    · have e : findI k (mtk (x :: xs)) i = findI k (mtk xs) (i + 1) := by simp [mtk, findI, h]
      rw [e]
      exact ⟨fun hm => ih.1 (by simpa [h] using hm), fun hm => ih.2 (fun h2 => hm (.tail _ h2))⟩
theorem looki_in {k : Int} {xs : List Int} (h : k ∈ xs) : looki (mtk xs) k = some (.bool true) := by
  obtain ⟨j, hj⟩ := (findI_mtk k xs 0).1 h
  simp [looki, hj]
theorem looki_out {k : Int} {xs : List Int} (h : ¬ k ∈ xs) : looki (mtk xs) k = none := by
  simp [looki, (findI_mtk k xs 0).2 h]
theorem updI_out {k : Int} {xs : List Int} (h : ¬ k ∈ xs) : updI (mtk xs) k (.bool true) = mtk (xs ++ [k]) := by
  unfold updI
  rw [(findI_mtk k xs 0).2 h]
  simp [mtk]
theorem nodup_step {xs : List Int} {k : Nat} {x : Int} (hx : xs[k]? = some x) (h : (xs.take k).Nodup) (hn : ¬ x ∈ xs.take k) : (xs.take (k + 1)).Nodup := by
  rw [List.take_add_one, hx]
  refine List.nodup_append.2 ⟨h, by simp, ?_⟩
  intro a ha b hb e
  have hb' := List.mem_singleton.1 hb
  subst hb'; subst e; exact hn ha
theorem nodup_stop {xs : List Int} {k : Nat} {x : Int} (hx : xs[k]? = some x) (hn : x ∈ xs.take k) : ¬ xs.Nodup := by
  intro h
  have h2 : (xs.take (k + 1)).Nodup := h.sublist (List.take_sublist _ _)
  rw [List.take_add_one, hx] at h2
  exact (List.nodup_append.1 h2).2.2 x hn x (by simp) rfl
theorem diff1_c (tb bl : Nat) (x n : Int) (w0 w : World) (F : List Atom) (hn : -1000000 ≤ n ∧ n ≤ 1000000) (hs : Sat w0 w (blk tb 131 [.func (.func 92) #[] #[.pointer (some ⟨bl, 0, none⟩)]] :: blk bl 3 [.int .i64 n] :: F)) : Calls Try.prog 91 [.int .i64 x, .pointer (some ⟨tb, 0, none⟩)].toArray w fun e w' => e = .returned (.bool (decide (¬ wi x 0 (n - 1)))) ∧ Sat w0 w' (blk tb 131 [.func (.func 92) #[] #[.pointer (some ⟨bl, 0, none⟩)]] :: blk bl 3 [.int .i64 n] :: F) := by
  refine fstart Try.func91 rfl rfl hs ?_
  refine Cd.seq ?_
  refine Cd.region ?_
  refine Ops.q (q_asg rfl) ?_
  refine Ops.to rfl ?_
  refine Cd.seq ?_
  refine Cd.region ?_
  refine Ops.q (q_ldB isA_131 rfl .here rfl) ?_
  refine Ops.q (q_mv rfl) ?_
  by_cases h1 : wi x 0 (n - 1)
  · refine Ops.cv (α := Unit) (k := 92) (first := []) (caps := [.pointer (some ⟨bl, 0, none⟩)]) (vs := [.int .i64 x]) (v := fun _ => .bool true) (A' := fun _ => blk bl 3 [.int .i64 n] :: blk tb 131 [.func (.func 92) #[] #[.pointer (some ⟨bl, 0, none⟩)]] :: F) en_92 rfl rfl (fun w hs => bT (below1_c bl x n _ w _ (by omega) (((hs.pull .here).pull (.there .here)))) h1) ?_
    intro _
    refine Ops.q (q_not rfl) ?_
    refine Ops.q (q_asg rfl) ?_
    refine Ops.to rfl ?_
    refine Cd.rt (fn := Try.f91) [.bool false] (by with_reducible repeat (first | exact rq_here | apply rq_then | apply rq_block)) rfl ⟨rfl, trivial⟩ ?_
    intro w' hs
    exact ⟨ebool (by simp [h1]), ((hs.pull .here).pull (.there .here))⟩
  · refine Ops.cv (α := Unit) (k := 92) (first := []) (caps := [.pointer (some ⟨bl, 0, none⟩)]) (vs := [.int .i64 x]) (v := fun _ => .bool false) (A' := fun _ => blk bl 3 [.int .i64 n] :: blk tb 131 [.func (.func 92) #[] #[.pointer (some ⟨bl, 0, none⟩)]] :: F) en_92 rfl rfl (fun w hs => bF (below1_c bl x n _ w _ (by omega) (((hs.pull .here).pull (.there .here)))) h1) ?_
    intro _
    refine Ops.q (q_not rfl) ?_
    refine Ops.q (q_asg rfl) ?_
    refine Ops.to rfl ?_
    refine Cd.rt (fn := Try.f91) [.bool true] (by with_reducible repeat (first | exact rq_here | apply rq_then | apply rq_block)) rfl ⟨rfl, trivial⟩ ?_
    intro w' hs
    exact ⟨ebool (by simp [h1]), ((hs.pull .here).pull (.there .here))⟩
theorem indexI_c (tb bl : Nat) (xa : Option Addr) (xc : Nat) (xs : List Int) (n : Int) (w0 w : World) (F : List Atom) (hX : RoL w0 xa eInt xs) (hl : xs.length ≤ 1000000) (hn : -1000000 ≤ n ∧ n ≤ 1000000) (hs : Sat w0 w (blk tb 131 [.func (.func 92) #[] #[.pointer (some ⟨bl, 0, none⟩)]] :: blk bl 3 [.int .i64 n] :: F)) : Calls Try.prog 111 [.slice xa xs.length xc, .func (.func 91) #[] #[.pointer (some ⟨tb, 0, none⟩)]].toArray w fun e w' => ∃ i : Int, e = .returned (.int .i64 i) ∧ (0 ≤ i ↔ ∃ y ∈ xs, ¬ wi y 0 (n - 1)) ∧ Sat w0 w' (blk tb 131 [.func (.func 92) #[] #[.pointer (some ⟨bl, 0, none⟩)]] :: blk bl 3 [.int .i64 n] :: F) := by
  refine fstart Try.func111 rfl rfl hs ?_
  refine Cd.seq ?_
  refine Cd.region ?_
  refine Ops.q (q_asg rfl) ?_
  refine Ops.to rfl ?_
  refine Cd.seq ?_
  refine Cd.seq ?_
  refine Cd.region ?_
  refine Ops.q (q_mv rfl) ?_
  refine Ops.q (q_len esz_26 rfl) ?_
  refine Ops.q (q_mv rfl) ?_
  refine Ops.to rfl ?_
  refine Cd.block ?_
  refine Cd.lp (σ := Nat) (fun k => k ≤ xs.length ∧ ∀ y ∈ xs.take k, wi y 0 (n - 1)) (fun k => [(0, .slice xa xs.length xc), (1, .func (.func 91) #[] #[.pointer (some ⟨tb, 0, none⟩)]), (7, .int .i64 (xs.length : Int)), (8, .int .i64 (k : Int))]) (fun k => blk tb 131 [.func (.func 92) #[] #[.pointer (some ⟨bl, 0, none⟩)]] :: blk bl 3 [.int .i64 n] :: F) (fun k => xs.length - k) 0 ⟨Nat.zero_le _, by simp⟩ ⟨rfl, rfl, rfl, rfl, trivial⟩ (fun _ hs => hs) ?_
  intro k hI
  have hI1 := hI.1
  refine Cd.seq ?_
  refine Cd.region ?_
  by_cases hk : (k : Int) < (xs.length : Int)
  · refine Ops.q (q_cmp rfl rfl (c_lt hk)) ?_
    obtain ⟨x1, hx2⟩ : ∃ x, xs[k]? = some x := ⟨_, List.getElem?_eq_getElem (by omega)⟩
    obtain ⟨ab3, ao4, rfl⟩ := RoL.pos hX eInt_len hx2
    refine Ops.to rfl ?_
    refine Cd.seq ?_
    refine Cd.cond_t rfl ?_
    refine Cd.skipTo rfl ?_
    refine Cd.seq ?_
    refine Cd.block ?_
    refine Cd.seq ?_
    refine Cd.region ?_
    refine Ops.q (q_mv rfl) ?_
    refine Ops.q (q_asg rfl) ?_
    refine Ops.to rfl ?_
    refine Cd.seq ?_
    refine Cd.region ?_
    refine Ops.q (q_mv rfl) ?_
    refine Ops.q (q_mv rfl) ?_
    refine Ops.q (q_mv rfl) ?_
    refine Ops.q (q_ix (k := k) esz_26 rfl rfl (by omega)) ?_
    refine Ops.q (q_ldR isA_3 rfl (hX.at0 eInt_len hx2 rfl)) ?_
    by_cases hc5 : ¬ wi x1 0 (n - 1)
    · refine Ops.cv (α := Unit) (k := 91) (first := []) (caps := [.pointer (some ⟨tb, 0, none⟩)]) (vs := [.int .i64 x1]) (v := fun _ => .bool true) (A' := fun _ => blk tb 131 [.func (.func 92) #[] #[.pointer (some ⟨bl, 0, none⟩)]] :: blk bl 3 [.int .i64 n] :: F) en_91 rfl rfl (fun w hs => bT (diff1_c tb bl x1 n _ w _ hn hs) hc5) ?_
      intro _
      refine Ops.to rfl ?_
      refine Cd.cond_t rfl ?_
      refine Cd.seq ?_
      refine Cd.region ?_
      refine Ops.q (q_mv rfl) ?_
      refine Ops.q (q_asg rfl) ?_
      refine Ops.to rfl ?_
      refine Cd.rt (fn := Try.f111) [.int .i64 (k : Int)] (by with_reducible repeat (first | exact rq_here | apply rq_then | apply rq_block)) rfl ⟨rfl, trivial⟩ ?_
      intro w' hs'
      exact ⟨(k : Int), rfl, ⟨fun _ => ⟨x1, List.mem_iff_getElem?.2 ⟨k, hx2⟩, hc5⟩, fun _ => by omega⟩, hs'⟩
    · refine Ops.cv (α := Unit) (k := 91) (first := []) (caps := [.pointer (some ⟨tb, 0, none⟩)]) (vs := [.int .i64 x1]) (v := fun _ => .bool false) (A' := fun _ => blk tb 131 [.func (.func 92) #[] #[.pointer (some ⟨bl, 0, none⟩)]] :: blk bl 3 [.int .i64 n] :: F) en_91 rfl rfl (fun w hs => bF (diff1_c tb bl x1 n _ w _ hn hs) hc5) ?_
      intro _
      refine Ops.to rfl ?_
      refine Cd.cond_f rfl ?_
      refine Cd.skipTo rfl ?_
      refine Cd.region ?_
      refine Ops.q (q_ar rfl rfl (a_inc (by omega))) ?_
      refine Ops.q (q_mv rfl) ?_
      refine Ops.rnd (k + 1) rfl (⟨by omega, by intro y hy; rw [List.take_add_one, hx2] at hy; rcases List.mem_append.1 hy with hy | hy; exact hI.2 y hy; obtain rfl := List.mem_singleton.1 hy; exact Decidable.of_not_not hc5⟩) (by omega) ⟨rfl, rfl, rfl, rfl, trivial⟩ (fun _ hs => hs) 
  · refine Ops.q (q_cmp rfl rfl (c_nlt (by omega))) ?_
    refine Ops.to rfl ?_
    refine Cd.seq ?_
    refine Cd.cond_f rfl ?_
    refine Cd.exitTo rfl ?_
    refine Cd.seq ?_
    refine Cd.region ?_
    refine Ops.q (q_asg rfl) ?_
    refine Ops.to rfl ?_
    refine Cd.rt (fn := Try.f111) [.int .i64 (-1)] (by with_reducible repeat (first | exact rq_here | apply rq_then | apply rq_block)) rfl ⟨rfl, trivial⟩ ?_
    intro w' hs'
    exact ⟨-1, rfl, ⟨fun h => by omega, fun ⟨y, hy, hne⟩ => by rw [List.take_of_length_le (by omega)] at hI; exact absurd (hI.2 y hy) hne⟩, hs'⟩
theorem containsI_c (tb bl : Nat) (xa : Option Addr) (xc : Nat) (xs : List Int) (n : Int) (w0 w : World) (F : List Atom) (hX : RoL w0 xa eInt xs) (hl : xs.length ≤ 1000000) (hn : -1000000 ≤ n ∧ n ≤ 1000000) (hs : Sat w0 w (blk tb 131 [.func (.func 92) #[] #[.pointer (some ⟨bl, 0, none⟩)]] :: blk bl 3 [.int .i64 n] :: F)) : Calls Try.prog 90 [.slice xa xs.length xc, .func (.func 91) #[] #[.pointer (some ⟨tb, 0, none⟩)]].toArray w fun e w' => e = .returned (.bool (decide (∃ y ∈ xs, ¬ wi y 0 (n - 1)))) ∧ Sat w0 w' (blk tb 131 [.func (.func 92) #[] #[.pointer (some ⟨bl, 0, none⟩)]] :: blk bl 3 [.int .i64 n] :: F) := by
  refine fstart Try.func90 rfl rfl hs ?_
  refine Cd.seq ?_
  refine Cd.region ?_
  refine Ops.q (q_asg rfl) ?_
  refine Ops.to rfl ?_
  refine Cd.seq ?_
  refine Cd.region ?_
  refine Ops.q (q_mv rfl) ?_
  refine Ops.q (q_mv rfl) ?_
  refine Ops.cm (α := {i : Int // 0 ≤ i ↔ ∃ y ∈ xs, ¬ wi y 0 (n - 1)}) (v := fun i => .int .i64 i.1) (A' := fun _ => blk tb 131 [.func (.func 92) #[] #[.pointer (some ⟨bl, 0, none⟩)]] :: blk bl 3 [.int .i64 n] :: F) en_111 rfl (fun w hs => (indexI_c tb bl _ _ xs n _ w _ hX hl hn hs).mono fun e w' h => by obtain ⟨i, h1, h2, h3⟩ := h; exact ⟨⟨i, h2⟩, h1, h3⟩) ?_
  intro i
  by_cases h1 : 0 ≤ i.1
  · refine Ops.q (q_cmp rfl rfl (c_ge h1)) ?_
    refine Ops.q (q_asg rfl) ?_
    refine Ops.to rfl ?_
    refine Cd.rt (fn := Try.f90) [.bool true] (by with_reducible repeat (first | exact rq_here | apply rq_then | apply rq_block)) rfl ⟨rfl, trivial⟩ ?_
    intro w' hs'
    exact ⟨ebool (by rw [← i.2]; simp; try omega), hs'⟩
  · refine Ops.q (q_cmp rfl rfl (c_nge (by omega))) ?_
    refine Ops.q (q_asg rfl) ?_
    refine Ops.to rfl ?_
    refine Cd.rt (fn := Try.f90) [.bool false] (by with_reducible repeat (first | exact rq_here | apply rq_then | apply rq_block)) rfl ⟨rfl, trivial⟩ ?_
    intro w' hs'
    exact ⟨ebool (by rw [← i.2]; simp; try omega), hs'⟩
theorem different_c (bl : Nat) (xa : Option Addr) (xc : Nat) (xs : List Int) (n : Int) (w0 w : World) (F : List Atom) (hX : RoL w0 xa eInt xs) (hl : xs.length ≤ 1000000) (hn : -1000000 ≤ n ∧ n ≤ 1000000) (hs : Sat w0 w (blk bl 3 [.int .i64 n] :: F)) : Calls Try.prog 64 [.slice xa xs.length xc, .func (.func 92) #[] #[.pointer (some ⟨bl, 0, none⟩)]].toArray w fun e w' => e = .returned (.int .i64 (setE n xs)) ∧ Sat w0 w' (blk bl 3 [.int .i64 n] :: F) := by
  refine fstart Try.func64 rfl rfl hs ?_
  refine Cd.seq ?_
  refine Cd.region ?_
  refine Ops.box [.func (.func 92) #[] #[.pointer (some ⟨bl, 0, none⟩)]] rfl rfl ?_
  intro b1
  refine Ops.q (q_asg rfl) ?_
  refine Ops.to rfl ?_
  refine Cd.seq ?_
  refine Cd.seq ?_
  refine Cd.region ?_
  refine Ops.q (q_mv rfl) ?_
  refine Ops.q (q_mkf rfl rfl) ?_
  by_cases hc2 : ∃ y ∈ xs, ¬ wi y 0 (n - 1)
  · refine Ops.cm (α := Unit) (v := fun _ => .bool true) (A' := fun _ => blk b1 131 [.func (.func 92) #[] #[.pointer (some ⟨bl, 0, none⟩)]] :: blk bl 3 [.int .i64 n] :: F) en_90 rfl (fun w hs => bT (containsI_c b1 bl _ _ xs n _ w _ hX hl hn (((hs.pull (.there .here)).pull (.there .here)))) hc2) ?_
    intro _
    refine Ops.to rfl ?_
    refine Cd.cond_t rfl ?_
    refine Cd.seq ?_
    refine Cd.region ?_
    refine Ops.q (q_asg rfl) ?_
    refine Ops.to rfl ?_
    refine Cd.rt (fn := Try.f64) [.int .i64 4] (by with_reducible repeat (first | exact rq_here | apply rq_then | apply rq_block)) rfl ⟨rfl, trivial⟩ ?_
    intro w' hs'
    rw [show setE n xs = 4 by unfold setE; rw [if_neg (fun h => by obtain ⟨y, hy, hne⟩ := hc2; exact hne (h y hy))]]
    exact ⟨rfl, ((hs'.pull (.there .here)).pull (.there .here)).drop⟩
  · refine Ops.cm (α := Unit) (v := fun _ => .bool false) (A' := fun _ => blk b1 131 [.func (.func 92) #[] #[.pointer (some ⟨bl, 0, none⟩)]] :: blk bl 3 [.int .i64 n] :: F) en_90 rfl (fun w hs => bF (containsI_c b1 bl _ _ xs n _ w _ hX hl hn (((hs.pull (.there .here)).pull (.there .here)))) hc2) ?_
    intro _
    refine Ops.to rfl ?_
    refine Cd.cond_f rfl ?_
    refine Cd.skipTo rfl ?_
    refine Cd.seq ?_
    refine Cd.region ?_
    refine Ops.mkm ?_
    intro b3
    refine Ops.q (q_asg rfl) ?_
    refine Ops.to rfl ?_
    refine Cd.seq ?_
    refine Cd.seq ?_
    refine Cd.region ?_
    refine Ops.q (q_mv rfl) ?_
    refine Ops.q (q_len esz_26 rfl) ?_
    refine Ops.q (q_mv rfl) ?_
    refine Ops.to rfl ?_
    refine Cd.block ?_
    refine Cd.lp (σ := Nat) (fun k => k ≤ xs.length ∧ (xs.take k).Nodup) (fun k => [(5, .map (some b3)), (12, .slice xa xs.length xc), (13, .int .i64 (xs.length : Int)), (14, .int .i64 (k : Int))]) (fun k => imap b3 (mtk (xs.take k)) :: blk bl 3 [.int .i64 n] :: F) (fun k => xs.length - k) 0 ⟨Nat.zero_le _, by simp⟩ ⟨rfl, rfl, rfl, rfl, trivial⟩ (fun _ hs => (((hs.pull (.there (.there .here))).pull (.there .here)).pull (.there (.there .here))).drop) ?_
    intro k hI
    have hI1 := hI.1
    refine Cd.seq ?_
    refine Cd.region ?_
    by_cases hk : (k : Int) < (xs.length : Int)
    · refine Ops.q (q_cmp rfl rfl (c_lt hk)) ?_
      obtain ⟨x4, hx5⟩ : ∃ x, xs[k]? = some x := ⟨_, List.getElem?_eq_getElem (by omega)⟩
      obtain ⟨ab6, ao7, rfl⟩ := RoL.pos hX eInt_len hx5
      refine Ops.to rfl ?_
      refine Cd.seq ?_
      refine Cd.cond_t rfl ?_
      refine Cd.skipTo rfl ?_
      refine Cd.seq ?_
      refine Cd.block ?_
      refine Cd.seq ?_
      refine Cd.region ?_
      refine Ops.q (q_ix (k := k) esz_26 rfl rfl (by omega)) ?_
      refine Ops.q (q_ldR isA_3 rfl (hX.at0 eInt_len hx5 rfl)) ?_
      refine Ops.q (q_asg rfl) ?_
      refine Ops.to rfl ?_
      refine Cd.seq ?_
      refine Cd.seq ?_
      refine Cd.region ?_
      refine Ops.q (q_mv rfl) ?_
      refine Ops.q (q_mv rfl) ?_
      by_cases hd8 : x4 ∈ xs.take k
      · refine Ops.q (q_look mpT_166 iK_3 rfl rfl .here (.inl (looki_in hd8))) ?_
        refine Ops.to rfl ?_
        refine Cd.cond_t rfl ?_
        refine Cd.seq ?_
        refine Cd.region ?_
        refine Ops.q (q_asg rfl) ?_
        refine Ops.to rfl ?_
        refine Cd.rt (fn := Try.f64) [.int .i64 5] (by with_reducible repeat (first | exact rq_here | apply rq_then | apply rq_block)) rfl ⟨rfl, trivial⟩ ?_
        intro w' hs'
        rw [show setE n xs = 5 by unfold setE; rw [if_pos (fun y hy => Decidable.of_not_not (fun hne => hc2 ⟨y, hy, hne⟩)), if_neg (nodup_stop hx5 hd8)]]
        exact ⟨rfl, ((hs'.pull (.there .here)).pull (.there .here)).drop⟩
      · refine Ops.q (q_look mpT_166 iK_3 rfl rfl .here (.inr ⟨looki_out hd8, zero_4⟩)) ?_
        refine Ops.to rfl ?_
        refine Cd.cond_f rfl ?_
        refine Cd.skipTo rfl ?_
        refine Cd.region ?_
        refine Ops.q (q_mv rfl) ?_
        refine Ops.q (q_mv rfl) ?_
        refine Ops.mpu mpT_166 iK_3 rfl rfl rfl .here ?_
        refine Ops.to rfl ?_
        refine Cd.region ?_
        refine Ops.q (q_ar rfl rfl (a_inc (by omega))) ?_
        refine Ops.q (q_mv rfl) ?_
        refine Ops.rnd (k + 1) rfl (⟨by omega, nodup_step hx5 hI.2 hd8⟩) (by omega) ⟨rfl, rfl, rfl, rfl, trivial⟩ (fun _ hs => by have h1 := ((hs.pull (.there .here)).pull (.there .here)); rw [updI_out hd8] at h1; rw [List.take_add_one, hx5]; exact h1) 
    · refine Ops.q (q_cmp rfl rfl (c_nlt (by omega))) ?_
      refine Ops.to rfl ?_
      refine Cd.seq ?_
      refine Cd.cond_f rfl ?_
      refine Cd.exitTo rfl ?_
      refine Cd.seq ?_
      refine Cd.region ?_
      refine Ops.q (q_asg rfl) ?_
      refine Ops.to rfl ?_
      refine Cd.rt (fn := Try.f64) [.int .i64 0] (by with_reducible repeat (first | exact rq_here | apply rq_then | apply rq_block)) rfl ⟨rfl, trivial⟩ ?_
      intro w' hs'
      rw [show setE n xs = 0 by unfold setE; rw [if_pos (fun y hy => Decidable.of_not_not (fun hne => hc2 ⟨y, hy, hne⟩)), if_pos (by have := hI.2; rwa [List.take_of_length_le (by omega)] at this)]]
      exact ⟨rfl, ((hs'.pull (.there .here)).pull (.there .here)).drop⟩
end Go.Proofs.Ytilcdghliigngaa
