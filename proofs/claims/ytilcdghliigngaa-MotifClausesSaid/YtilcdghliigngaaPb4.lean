/- Part of a claim: the program logic, the contracts of the functions, their models. No condition. -/
import Derived.WalkKit
import Derived.OwnWalkIn
import Derived.TacticsInMore
import Derived.OrdersIn
import Derived.RangeFuncLeaves
import Derived.RangeFuncNested
import Derived.Maps.AppendAt
import Derived.Shelf.Abstract
import Derived.Test.YtilcdghliigngaaProg
import Derived.MapKept
import Derived.Laws.StructEq
import Derived.Laws.OwnMore
import Derived.RangeFuncRecord
import Derived.Lib.SliceRun
import Derived.Lib.AppendZeros
import Derived.Lib.AppendZerosOnto
import Derived.Lib.Overlaps
import Derived.Laws.Externs
import Derived.Test.YtilcdghliigngaaPb3
namespace Go.Proofs.Ytilcdghliigngaa
open Go.RowKit Go.Proofs.YtilcdghliigngaaGl Go.Proofs.YtilcdghliigngaaPm
set_option linter.unusedVariables false
set_option linter.unusedSimpArgs false
theorem intS_76 : intS Try.prog 76 = some 2 := by kernel_rfl
section
variable {P : Program} {w0 : World} {n : Nat} {D : List Deferred} {L : Env} {A : List Atom}
theorem q_eqF {T tz : TypeId} {x y : Operand} (vs us : List Int) {v u : Value} (hT : intS P T = some vs.length) (hx : ev L x = some v) (hy : ev L y = some u) (hv : v = .agg (ints vs).toArray) (hu : u = .agg (ints us).toArray) (hl : us.length = vs.length) (h : vs ≠ us) : Qv P w0 n D L A (.binOp .eql T x y tz) (.bool false) := by
  have := q_eqS (P := P) (w0 := w0) (n := n) (D := D) (A := A) (tz := tz) vs us hT hx hy hv hu hl
  rwa [show (vs == us) = false by simp [h]] at this
theorem q_eqT {T tz : TypeId} {x y : Operand} (vs us : List Int) {v u : Value} (hT : intS P T = some vs.length) (hx : ev L x = some v) (hy : ev L y = some u) (hv : v = .agg (ints vs).toArray) (hu : u = .agg (ints us).toArray) (hl : us.length = vs.length) (h : vs = us) : Qv P w0 n D L A (.binOp .eql T x y tz) (.bool true) := by
  have := q_eqS (P := P) (w0 := w0) (n := n) (D := D) (A := A) (tz := tz) vs us hT hx hy hv hu hl
  rwa [show (vs == us) = true by simp [h]] at this
end
theorem RoL.take {α : Type} {w : World} {a : Option Addr} {enc : α → List Value} {xs : List α} (h : RoL w a enc xs) (k : Nat) : RoL w a enc (xs.take k) := fun j u hu => by
  refine h j u ?_
  rw [← List.take_append_drop k xs, List.flatMap_append, List.getElem?_append_left (List.getElem?_eq_some_iff.1 hu).1]
  exact hu
def mrkE (ip : Int) (pre : List Mrk) (m : Mrk) : Int := if wi m.inp 0 (ip - 1) then (if wi m.off 0 15 then (if m ∈ pre then 5 else 0) else 3) else 4
def patE (ip : Int) : List Mrk → List Mrk → Int
  | _, [] => 0
  | pre, m :: r => if mrkE ip pre m ≠ 0 then mrkE ip pre m else patE ip (pre ++ [m]) r
def mrkS (m : Mrk) : Syn := ⟨-1 - m.inp, 0, 1, 16 - m.off⟩
def patP (ip : Int) (ms : List Mrk) (miss : Int) : Except Int NetP :=
  if wi ip 1 256 then
    if 64 < ms.length then .error 9
    else if ms.length = 0 then .error 2
    else if patE ip [] ms ≠ 0 then .error (patE ip [] ms)
    else if wi miss 0 ((ms.length : Int) - 1) then .ok ⟨[gateP ((ms.length : Int) - miss)], ip, ms.map mrkS⟩ else .error 3
  else .error 3
theorem patE_step {ip : Int} {ms : List Mrk} {k : Nat} {x : Mrk} (hx : ms[k]? = some x) (h : mrkE ip (ms.take k) x = 0) : patE ip (ms.take k) (ms.drop k) = patE ip (ms.take (k + 1)) (ms.drop (k + 1)) := by
  rw [drop_get hx, patE, if_neg (by simpa using h), List.take_add_one, hx]; rfl
theorem patE_stop {ip : Int} {ms : List Mrk} {k : Nat} {x : Mrk} (hx : ms[k]? = some x) (h : mrkE ip (ms.take k) x ≠ 0) : patE ip (ms.take k) (ms.drop k) = mrkE ip (ms.take k) x := by
  rw [drop_get hx, patE, if_pos h]
theorem patE_end {ip : Int} {ms : List Mrk} {k : Nat} (h : ms.length ≤ k) : patE ip (ms.take k) (ms.drop k) = 0 := by
  rw [List.drop_eq_nil_of_le h, patE]
theorem mrkE_4 {ip : Int} {pre : List Mrk} {m : Mrk} (h : ¬ wi m.inp 0 (ip - 1)) : mrkE ip pre m = 4 := by unfold mrkE; rw [if_neg h]
theorem mrkE_3 {ip : Int} {pre : List Mrk} {m : Mrk} (h : wi m.inp 0 (ip - 1)) (h2 : ¬ wi m.off 0 15) : mrkE ip pre m = 3 := by unfold mrkE; rw [if_pos h, if_neg h2]
theorem mrkE_5 {ip : Int} {pre : List Mrk} {m : Mrk} (h : wi m.inp 0 (ip - 1)) (h2 : wi m.off 0 15) (h3 : m ∈ pre) : mrkE ip pre m = 5 := by unfold mrkE; rw [if_pos h, if_pos h2, if_pos h3]
theorem mrkE_0 {ip : Int} {pre : List Mrk} {m : Mrk} (h : wi m.inp 0 (ip - 1)) (h2 : wi m.off 0 15) (h3 : ¬ m ∈ pre) : mrkE ip pre m = 0 := by unfold mrkE; rw [if_pos h, if_pos h2, if_neg h3]
theorem notmem_step {α : Type} {xs : List α} {k : Nat} {x y : α} (hx : xs[k]? = some x) (h : ¬ y ∈ xs.take k) (hn : ¬ y = x) : ¬ y ∈ xs.take (k + 1) := by
  rw [List.take_add_one, hx]
  intro hm
  rcases List.mem_append.1 hm with hm | hm
  · exact h hm
  · exact hn (List.mem_singleton.1 hm)
theorem indexM_c (xa : Option Addr) (xc : Nat) (xs : List Mrk) (y : Mrk) (w : World) (hX : RoL w xa eMark xs) (hl : xs.length ≤ 1000000) : Calls Try.prog 93 [.slice xa xs.length xc, .agg (eMark y).toArray].toArray w fun e w' => ∃ i : Int, e = .returned (.int .i64 i) ∧ (0 ≤ i ↔ y ∈ xs) ∧ Sat w w' [] := by
  refine fstart Try.func93 rfl rfl (Sat.nil w) ?_
  refine Cd.seq ?_
  refine Cd.region ?_
  refine Ops.box [.int .i64 y.inp, .int .i64 y.off] rfl rfl ?_
  intro b1
  refine Ops.q (q_asg rfl) ?_
  refine Ops.to rfl ?_
  refine Cd.seq ?_
  refine Cd.seq ?_
  refine Cd.region ?_
  refine Ops.q (q_mv rfl) ?_
  refine Ops.q (q_len esz_73 rfl) ?_
  refine Ops.q (q_mv rfl) ?_
  refine Ops.to rfl ?_
  refine Cd.block ?_
  refine Cd.lp (σ := Nat) (fun k => k ≤ xs.length ∧ ¬ y ∈ xs.take k) (fun k => [(0, .slice xa xs.length xc), (3, .pointer (some ⟨b1, 0, none⟩)), (7, .int .i64 (xs.length : Int)), (8, .int .i64 (k : Int))]) (fun k => [blk b1 76 [.int .i64 y.inp, .int .i64 y.off]]) (fun k => xs.length - k) 0 ⟨Nat.zero_le _, by simp⟩ ⟨rfl, rfl, rfl, rfl, trivial⟩ (fun _ hs => hs) ?_
  intro k hI
  have hI1 := hI.1
  refine Cd.seq ?_
  refine Cd.region ?_
  by_cases hk : (k : Int) < (xs.length : Int)
  · refine Ops.q (q_cmp rfl rfl (c_lt hk)) ?_
    obtain ⟨x2, hx3⟩ : ∃ x, xs[k]? = some x := ⟨_, List.getElem?_eq_getElem (by omega)⟩
    obtain ⟨ab4, ao5, rfl⟩ := RoL.pos hX eMark_len hx3
    refine Ops.to rfl ?_
    refine Cd.seq ?_
    refine Cd.cond_t rfl ?_
    refine Cd.skipTo rfl ?_
    refine Cd.seq ?_
    refine Cd.block ?_
    refine Cd.seq ?_
    refine Cd.region ?_
    refine Ops.q (q_mv rfl) ?_
    refine Ops.q (q_asg rfl) ?_
    refine Ops.to rfl ?_
    refine Cd.seq ?_
    refine Cd.draw rfl (by kernel_rfl) (.cons .here .nil) ?_
    intro F6 St7 hP8 hF9 hR10
    refine Dr.q (i := 0) hP8 rfl (by kernel_rfl) (q_ldBN [.int .i64 y.inp, .int .i64 y.off] isA_76 sz_76 rfl .here rfl) ?_
    refine Dr.q (i := 1) hP8 rfl (by kernel_rfl) (q_mv rfl) ?_
    refine Dr.q (i := 2) hP8 rfl (by kernel_rfl) (q_mv rfl) ?_
    refine Dr.q (i := 3) hP8 rfl (by kernel_rfl) (q_ix (k := k) esz_73 rfl rfl (by omega)) ?_
    refine Dr.q (i := 4) hP8 rfl (by kernel_rfl) (q_ldRN [.int .i64 x2.inp, .int .i64 x2.off] isA_76 sz_76 rfl (fun j u hu => hX.at eMark_len hx3 hu)) ?_
    by_cases hc11 : y = x2
    · refine Dr.q (i := 5) hP8 rfl (by kernel_rfl) (q_eqT [y.inp, y.off] [x2.inp, x2.off] intS_76 rfl rfl rfl rfl rfl (by rw [hc11])) ?_
      refine Dr.tail 6 (by kernel_rfl) ?_
      refine Ops.sat ?_ (fun _ hs => hR10 .here hs)
      refine Ops.to rfl ?_
      refine Cd.cond_t rfl ?_
      refine Cd.seq ?_
      refine Cd.region ?_
      refine Ops.q (q_mv rfl) ?_
      refine Ops.q (q_asg rfl) ?_
      refine Ops.to rfl ?_
      refine Cd.rt (fn := Try.f93) [.int .i64 (k : Int)] (by with_reducible repeat (first | exact rq_here | apply rq_then | apply rq_block)) rfl ⟨rfl, trivial⟩ ?_
      intro w' hs'
      exact ⟨(k : Int), rfl, ⟨fun _ => hc11 ▸ List.mem_iff_getElem?.2 ⟨k, hx3⟩, fun _ => by omega⟩, hs'.none⟩
    · refine Dr.q (i := 5) hP8 rfl (by kernel_rfl) (q_eqF [y.inp, y.off] [x2.inp, x2.off] intS_76 rfl rfl rfl rfl rfl (fun e => hc11 (by cases y; cases x2; simp at e; simp [e]))) ?_
      refine Dr.tail 6 (by kernel_rfl) ?_
      refine Ops.sat ?_ (fun _ hs => hR10 .here hs)
      refine Ops.to rfl ?_
      refine Cd.cond_f rfl ?_
      refine Cd.skipTo rfl ?_
      refine Cd.region ?_
      refine Ops.q (q_ar rfl rfl (a_inc (by omega))) ?_
      refine Ops.q (q_mv rfl) ?_
      refine Ops.rnd (k + 1) rfl (⟨by omega, notmem_step hx3 hI.2 hc11⟩) (by omega) ⟨rfl, rfl, rfl, rfl, trivial⟩ (fun _ hs => hs) 
  · refine Ops.q (q_cmp rfl rfl (c_nlt (by omega))) ?_
    refine Ops.to rfl ?_
    refine Cd.seq ?_
    refine Cd.cond_f rfl ?_
    refine Cd.exitTo rfl ?_
    refine Cd.seq ?_
    refine Cd.region ?_
    refine Ops.q (q_asg rfl) ?_
    refine Ops.to rfl ?_
    refine Cd.rt (fn := Try.f93) [.int .i64 (-1)] (by with_reducible repeat (first | exact rq_here | apply rq_then | apply rq_block)) rfl ⟨rfl, trivial⟩ ?_
    intro w' hs'
    exact ⟨-1, rfl, ⟨fun h => by omega, fun h => by rw [List.take_of_length_le (by omega)] at hI; exact absurd h hI.2⟩, hs'.none⟩
theorem containsM_c (xa : Option Addr) (xc : Nat) (xs : List Mrk) (y : Mrk) (w : World) (hX : RoL w xa eMark xs) (hl : xs.length ≤ 1000000) : Calls Try.prog 70 [.slice xa xs.length xc, .agg (eMark y).toArray].toArray w fun e w' => e = .returned (.bool (decide (y ∈ xs))) ∧ Sat w w' [] := by
  refine fstart Try.func70 rfl rfl (Sat.nil w) ?_
  refine Cd.seq ?_
  refine Cd.region ?_
  refine Ops.box [.int .i64 y.inp, .int .i64 y.off] rfl rfl ?_
  intro b1
  refine Ops.q (q_asg rfl) ?_
  refine Ops.to rfl ?_
  refine Cd.seq ?_
  refine Cd.region ?_
  refine Ops.q (q_mv rfl) ?_
  refine Ops.q (q_ldBN [.int .i64 y.inp, .int .i64 y.off] isA_76 sz_76 rfl .here rfl) ?_
  refine Ops.cl (α := {i : Int // 0 ≤ i ↔ y ∈ xs}) (v := fun i => .int .i64 i.1) (B := fun _ => []) en_93 rfl (fun w hs => (indexM_c _ _ xs y w (hX.later hs.below) hl).mono fun e w' h => by obtain ⟨i, h1, h2, h3⟩ := h; exact ⟨⟨i, h2⟩, h1, h3⟩) ?_
  intro i
  by_cases h2 : 0 ≤ i.1
  · refine Ops.q (q_cmp rfl rfl (c_ge h2)) ?_
    refine Ops.q (q_asg rfl) ?_
    refine Ops.to rfl ?_
    refine Cd.rt (fn := Try.f70) [.bool true] (by with_reducible repeat (first | exact rq_here | apply rq_then | apply rq_block)) rfl ⟨rfl, trivial⟩ ?_
    intro w' hs'
    exact ⟨ebool (by rw [← i.2]; simp; try omega), hs'.none⟩
  · refine Ops.q (q_cmp rfl rfl (c_nge (by omega))) ?_
    refine Ops.q (q_asg rfl) ?_
    refine Ops.to rfl ?_
    refine Cd.rt (fn := Try.f70) [.bool false] (by with_reducible repeat (first | exact rq_here | apply rq_then | apply rq_block)) rfl ⟨rfl, trivial⟩ ?_
    intro w' hs'
    exact ⟨ebool (by rw [← i.2]; simp; try omega), hs'.none⟩
theorem containsK_c (ma : Option Addr) (mc k : Nat) (ms : List Mrk) (y : Mrk) (w : World) (hM : RoL w ma eMark ms) (hl : ms.length ≤ 1000000) (hk : k ≤ ms.length) : Calls Try.prog 70 [.slice ma k mc, .agg (eMark y).toArray].toArray w fun e w' => e = .returned (.bool (decide (y ∈ ms.take k))) ∧ Sat w w' [] := by
  have h := containsM_c ma mc (ms.take k) y w (RoL.take hM k) (by rw [List.length_take]; omega)
  rwa [List.length_take, Nat.min_eq_left hk] at h
theorem pattern_c (ip : Int) (ma : Option Addr) (mc : Nat) (ms : List Mrk) (miss : Int) (w : World) (hM : RoL w ma eMark ms) (hmc : ms.length ≤ mc) : Calls Try.prog 32 [.int .i64 ip, .slice ma ms.length mc, .int .i64 miss].toArray w (RetR (patP ip ms miss) w) := by
  refine fstart Try.func32 rfl rfl (Sat.nil w) ?_
  refine Cd.seq ?_
  refine Cd.region ?_
  refine Ops.alc [.slice none 0 0, .int .i64 0, .slice none 0 0] zc_32 ?_
  intro b1
  refine Ops.q (q_asg rfl) ?_
  refine Ops.to rfl ?_
  refine Cd.seq ?_
  refine Cd.block ?_
  refine Cd.seq ?_
  refine Cd.region ?_
  refine Ops.q (q_mv rfl) ?_
  by_cases h2 : wi ip 1 256
  · refine Ops.cp en_57 rfl (fun w hs => dT (in_c _ _ _ w) h2) ?_
    refine Ops.q (q_not rfl) ?_
    refine Ops.q (q_asg rfl) ?_
    refine Ops.to rfl ?_
    refine Cd.cond_f rfl ?_
    refine Cd.seq ?_
    refine Cd.region ?_
    have hip := h2
    unfold wi at hip
    refine Ops.q (q_mv rfl) ?_
    refine Ops.q (q_len esz_73 rfl) ?_
    by_cases h3 : 64 < (ms.length : Int)
    · refine Ops.q (q_cmp rfl rfl (c_gt h3)) ?_
      refine Ops.q (q_asg rfl) ?_
      refine Ops.to rfl ?_
      refine Cd.cond_t rfl ?_
      refine Cd.seq ?_
      refine Cd.region ?_
      refine Ops.q (q_bld [.slice none 0 0, .int .i64 0, .slice none 0 0] pls_32 zc_32 rfl rfl) ?_
      refine Ops.stB [.slice none 0 0, .int .i64 0, .slice none 0 0] [.slice none 0 0, .int .i64 0, .slice none 0 0] sz_32 rfl rfl rfl (one rfl) .here rfl rfl ?_
      refine Ops.q (q_asg rfl) ?_
      refine Ops.to rfl ?_
      refine Cd.rt (fn := Try.f32) [.agg [.slice none 0 0, .int .i64 0, .slice none 0 0].toArray, .int .i64 9] (by with_reducible repeat (first | exact rq_here | apply rq_then | apply rq_block)) rfl ⟨⟨_, _, rfl, fun _ hs => run_loadN isA_32 sz_32 (fun o u hu => Sat.atB .here (by rw [Nat.zero_add]; exact hu) hs)⟩, rfl, trivial⟩ ?_
      intro w' hs'
      rw [show patP ip ms miss = .error 9 by unfold patP; rw [if_pos h2, if_pos (by omega)]]
      exact ⟨rfl, hs'.none⟩
    · refine Ops.q (q_cmp rfl rfl (c_ngt (by omega))) ?_
      refine Ops.q (q_asg rfl) ?_
      refine Ops.to rfl ?_
      refine Cd.cond_f rfl ?_
      refine Cd.seq ?_
      refine Cd.region ?_
      refine Ops.q (q_mv rfl) ?_
      refine Ops.q (q_len esz_73 rfl) ?_
      by_cases h0 : (ms.length : Int) = 0
      · refine Ops.q (q_cmp rfl rfl (c_eq h0)) ?_
        refine Ops.q (q_asg rfl) ?_
        refine Ops.to rfl ?_
        refine Cd.cond_t rfl ?_
        refine Cd.seq ?_
        refine Cd.region ?_
        refine Ops.q (q_bld [.slice none 0 0, .int .i64 0, .slice none 0 0] pls_32 zc_32 rfl rfl) ?_
        refine Ops.stB [.slice none 0 0, .int .i64 0, .slice none 0 0] [.slice none 0 0, .int .i64 0, .slice none 0 0] sz_32 rfl rfl rfl (one rfl) .here rfl rfl ?_
        refine Ops.q (q_asg rfl) ?_
        refine Ops.to rfl ?_
        refine Cd.rt (fn := Try.f32) [.agg [.slice none 0 0, .int .i64 0, .slice none 0 0].toArray, .int .i64 2] (by with_reducible repeat (first | exact rq_here | apply rq_then | apply rq_block)) rfl ⟨⟨_, _, rfl, fun _ hs => run_loadN isA_32 sz_32 (fun o u hu => Sat.atB .here (by rw [Nat.zero_add]; exact hu) hs)⟩, rfl, trivial⟩ ?_
        intro w' hs'
        rw [show patP ip ms miss = .error 2 by unfold patP; rw [if_pos h2, if_neg (by omega), if_pos (by omega)]]
        exact ⟨rfl, hs'.none⟩
      · refine Ops.q (q_cmp rfl rfl (c_neq h0)) ?_
        refine Ops.q (q_asg rfl) ?_
        refine Ops.to rfl ?_
        refine Cd.cond_f rfl ?_
        refine Cd.skipTo rfl ?_
        refine Cd.seq ?_
        refine Cd.region ?_
        refine Ops.q (q_mv rfl) ?_
        refine Ops.q (q_bld [.slice none 0 0, .int .i64 ip, .slice none 0 0] pls_32 zc_32 rfl rfl) ?_
        refine Ops.q (q_bld [.slice none 0 0, .int .i64 ip, .slice none 0 0] pls_114 zc_114 rfl rfl) ?_
        refine Ops.alc [.slice none 0 0, .int .i64 0, .slice none 0 0] zc_114 ?_
        intro b4
        refine Ops.stB [.slice none 0 0, .int .i64 ip, .slice none 0 0] [.slice none 0 0, .int .i64 ip, .slice none 0 0] sz_114 rfl rfl rfl (one rfl) .here rfl rfl ?_
        refine Ops.to rfl ?_
        refine Cd.seq ?_
        refine Cd.seq ?_
        refine Cd.nilRow 126 4 ?_
        refine Cd.nilRow 116 8 ?_
        change Cd _ _ _ _ _ _ _ _ ([row none 0 116 8 (([] : List Prm).length) (([] : List Prm).flatMap ePrm), row none 0 126 4 (([] : List Syn).length) (([] : List Syn).flatMap eSyn), blk b4 114 [.slice none (([] : List Prm).length) 0, .int .i64 ip, .slice none (([] : List Syn).length) 0], blk b1 32 [.slice none 0 0, .int .i64 0, .slice none 0 0]])
        refine Cd.region ?_
        refine Ops.q (q_mv rfl) ?_
        refine Ops.q (q_len esz_73 rfl) ?_
        refine Ops.q (q_mv rfl) ?_
        refine Ops.to rfl ?_
        refine Cd.block ?_
        refine Cd.lp (σ := Nat × Option Addr × Nat) (fun s => s.1 ≤ ms.length ∧ patE ip (ms.take s.1) (ms.drop s.1) = patE ip [] ms) (fun s => [(0, .int .i64 ip), (1, .slice ma ms.length mc), (2, .int .i64 miss), (6, .pointer (some ⟨b1, 0, none⟩)), (8, .pointer (some ⟨b4, 0, none⟩)), (29, .slice ma ms.length mc), (30, .int .i64 (ms.length : Int)), (31, .int .i64 (s.1 : Int))]) (fun s => [blk b4 114 [.slice none (([] : List Prm).length) 0, .int .i64 ip, .slice s.2.1 ((([] : List Syn) ++ (ms.take s.1).map mrkS).length) s.2.2], row none 0 116 8 (([] : List Prm).length) (([] : List Prm).flatMap ePrm), row s.2.1 s.2.2 126 4 ((([] : List Syn) ++ (ms.take s.1).map mrkS).length) ((([] : List Syn) ++ (ms.take s.1).map mrkS).flatMap eSyn), blk b1 32 [.slice none 0 0, .int .i64 0, .slice none 0 0]]) (fun s => ms.length - s.1) (0, none, 0) ⟨Nat.zero_le _, rfl⟩ ⟨rfl, rfl, rfl, rfl, rfl, rfl, rfl, rfl, trivial⟩ (fun _ hs => by have h1 := ((((hs.pull (.there (.there (.there .here)))).pull (.there (.there .here))).pull (.there (.there .here))).pull (.there (.there (.there .here)))); exact h1) ?_
        rintro ⟨k, qa, qc⟩ hI
        dsimp only at hI
        change Cd _ _ _ _ _ _ _ [(0, .int .i64 ip), (1, .slice ma ms.length mc), (2, .int .i64 miss), (6, .pointer (some ⟨b1, 0, none⟩)), (8, .pointer (some ⟨b4, 0, none⟩)), (29, .slice ma ms.length mc), (30, .int .i64 (ms.length : Int)), (31, .int .i64 (k : Int))] ([blk b4 114 [.slice none (([] : List Prm).length) 0, .int .i64 ip, .slice qa ((([] : List Syn) ++ (ms.take k).map mrkS).length) qc], row none 0 116 8 (([] : List Prm).length) (([] : List Prm).flatMap ePrm), row qa qc 126 4 ((([] : List Syn) ++ (ms.take k).map mrkS).length) ((([] : List Syn) ++ (ms.take k).map mrkS).flatMap eSyn), blk b1 32 [.slice none 0 0, .int .i64 0, .slice none 0 0]])
        have hI1 := hI.1
        refine Cd.seq ?_
        refine Cd.region ?_
        by_cases hk : (k : Int) < (ms.length : Int)
        · refine Ops.q (q_cmp rfl rfl (c_lt hk)) ?_
          obtain ⟨x5, hx6⟩ : ∃ x, ms[k]? = some x := ⟨_, List.getElem?_eq_getElem (by omega)⟩
          obtain ⟨ab7, ao8, rfl⟩ := RoL.pos hM eMark_len hx6
          refine Ops.to rfl ?_
          refine Cd.seq ?_
          refine Cd.cond_t rfl ?_
          refine Cd.skipTo rfl ?_
          refine Cd.seq ?_
          refine Cd.block ?_
          refine Cd.seq ?_
          refine Cd.region ?_
          refine Ops.q (q_mv rfl) ?_
          refine Ops.q (q_ix (k := k) esz_73 rfl rfl (by omega)) ?_
          refine Ops.q (q_ldRN [.int .i64 x5.inp, .int .i64 x5.off] isA_76 sz_76 rfl (fun j u hu => hM.at eMark_len hx6 hu)) ?_
          refine Ops.alc [.int .i64 0, .int .i64 0] zc_76 ?_
          intro b9
          refine Ops.q (q_asg rfl) ?_
          refine Ops.stB [.int .i64 x5.inp, .int .i64 x5.off] [.int .i64 x5.inp, .int .i64 x5.off] sz_76 rfl rfl rfl (one rfl) .here rfl rfl ?_
          refine Ops.to rfl ?_
          refine Cd.seq ?_
          refine Cd.block ?_
          refine Cd.seq ?_
          refine Cd.region ?_
          refine Ops.q (q_fa fo_76_0 rfl) ?_
          refine Ops.q (q_ldB isA_3 rfl .here rfl) ?_
          refine Ops.q (q_mv rfl) ?_
          refine Ops.q (q_ar (v := ip - 1) rfl rfl (a_sub (by omega))) ?_
          by_cases h10 : wi x5.inp 0 (ip - 1)
          · refine Ops.cp en_57 rfl (fun w hs => dT (in_c _ _ _ w) h10) ?_
            refine Ops.q (q_not rfl) ?_
            refine Ops.q (q_asg rfl) ?_
            refine Ops.to rfl ?_
            refine Cd.cond_f rfl ?_
            refine Cd.seq ?_
            refine Cd.region ?_
            refine Ops.q (q_fa fo_76_1 rfl) ?_
            refine Ops.q (q_ldB isA_3 rfl .here rfl) ?_
            by_cases h11 : wi x5.off 0 15
            · refine Ops.cp en_57 rfl (fun w hs => dT (in_c _ _ _ w) h11) ?_
              refine Ops.q (q_not rfl) ?_
              refine Ops.q (q_asg rfl) ?_
              refine Ops.to rfl ?_
              refine Cd.cond_f rfl ?_
              refine Cd.seq ?_
              refine Cd.draw rfl (by kernel_rfl) (.cons .here .nil) ?_
              intro F12 St13 hP14 hF15 hR16
              refine Dr.q (i := 0) hP14 rfl (by kernel_rfl) (q_mv rfl) ?_
              refine Dr.q (i := 1) hP14 rfl (by kernel_rfl) (q_mv rfl) ?_
              refine Dr.q (i := 2) hP14 rfl (by kernel_rfl) (q_cutHP (k := k) el_73 sz_76 rfl rfl (by omega)) ?_
              refine Dr.q (i := 3) hP14 rfl (by kernel_rfl) (q_ldBN [.int .i64 x5.inp, .int .i64 x5.off] isA_76 sz_76 rfl .here rfl) ?_
              refine Dr.e (i := 4) rfl (by kernel_rfl) ?_
              by_cases h17 : x5 ∈ ms.take k
              · refine Ops.cp en_70 rfl (fun w hs => dT (containsK_c _ _ k ms x5 w (hM.later hs.below) (by omega) (by omega)) h17) ?_
                refine Dr.back (fun _ hs => hF15 .here hs) ?_
                refine Dr.q (i := 5) hP14 rfl (by kernel_rfl) (q_asg rfl) ?_
                refine Dr.tail 6 (by kernel_rfl) ?_
                refine Ops.sat ?_ (fun _ hs => hR16 .here hs)
                refine Ops.to rfl ?_
                refine Cd.cond_t rfl ?_
                refine Cd.seq ?_
                refine Cd.region ?_
                refine Ops.q (q_bld [.slice none 0 0, .int .i64 0, .slice none 0 0] pls_32 zc_32 rfl rfl) ?_
                refine Ops.stB [.slice none 0 0, .int .i64 0, .slice none 0 0] [.slice none 0 0, .int .i64 0, .slice none 0 0] sz_32 rfl rfl rfl (one rfl) (.there (.there (.there (.there .here)))) rfl rfl ?_
                refine Ops.q (q_asg rfl) ?_
                refine Ops.to rfl ?_
                refine Cd.rt (fn := Try.f32) [.agg [.slice none 0 0, .int .i64 0, .slice none 0 0].toArray, .int .i64 5] (by with_reducible repeat (first | exact rq_here | apply rq_then | apply rq_block)) rfl ⟨⟨_, _, rfl, fun _ hs => run_loadN isA_32 sz_32 (fun o u hu => Sat.atB (.there (.there (.there (.there .here)))) (by rw [Nat.zero_add]; exact hu) hs)⟩, rfl, trivial⟩ ?_
                intro w' hs'
                have h8 : mrkE ip (ms.take k) x5 = 5 := mrkE_5 h10 h11 h17
                have h9 : patE ip [] ms = 5 := by rw [← hI.2, patE_stop hx6 (by omega), h8]
                rw [show patP ip ms miss = .error 5 by unfold patP; rw [if_pos h2, if_neg (by omega), if_neg (by omega), h9, if_pos (by decide)]]
                exact ⟨rfl, hs'.none⟩
              · refine Ops.cp en_70 rfl (fun w hs => dF (containsK_c _ _ k ms x5 w (hM.later hs.below) (by omega) (by omega)) h17) ?_
                refine Dr.back (fun _ hs => hF15 .here hs) ?_
                refine Dr.q (i := 5) hP14 rfl (by kernel_rfl) (q_asg rfl) ?_
                refine Dr.tail 6 (by kernel_rfl) ?_
                refine Ops.sat ?_ (fun _ hs => hR16 .here hs)
                refine Ops.to rfl ?_
                refine Cd.cond_f rfl ?_
                refine Cd.skipTo rfl ?_
                refine Cd.region ?_
                have hti := h10
                have hto := h11
                unfold wi at hti hto
                refine Ops.q (q_fa fo_76_0 rfl) ?_
                refine Ops.q (q_ldB isA_3 rfl .here rfl) ?_
                refine Ops.q (q_fa fo_76_1 rfl) ?_
                refine Ops.q (q_ldB isA_3 rfl .here rfl) ?_
                refine Ops.q (q_ar (v := 16 - x5.off) rfl rfl (a_sub (by omega))) ?_
                refine Ops.cm (α := Option Addr × Nat) (v := fun _ => .tuple #[]) (A' := fun p => [blk b4 114 [.slice none (([] : List Prm).length) 0, .int .i64 ip, .slice p.1 (((([] : List Syn) ++ (ms.take k).map mrkS) ++ [(⟨-1 - x5.inp, 0, 1, 16 - x5.off⟩ : Syn)]).length) p.2], row none 0 116 8 (([] : List Prm).length) (([] : List Prm).flatMap ePrm), row p.1 p.2 126 4 (((([] : List Syn) ++ (ms.take k).map mrkS) ++ [(⟨-1 - x5.inp, 0, 1, 16 - x5.off⟩ : Syn)]).length) (((([] : List Syn) ++ (ms.take k).map mrkS) ++ [(⟨-1 - x5.inp, 0, 1, 16 - x5.off⟩ : Syn)]).flatMap eSyn), blk b9 76 [.int .i64 x5.inp, .int .i64 x5.off], blk b1 32 [.slice none 0 0, .int .i64 0, .slice none 0 0]]) en_51 rfl (fun w hs => feed_c _ _ _ _ _ ([] : List Prm) _ (([] : List Syn) ++ (ms.take k).map mrkS) x5.inp 0 1 (16 - x5.off) _ w _ (by simp only [List.length_append, List.length_map, List.length_take, List.length_nil]; omega) (by omega) ((((((hs.pull (.there (.there (.there (.there .here))))).pull (.there .here)).pull (.there (.there (.there (.there .here))))).pull (.there (.there (.there (.there .here))))).pull (.there (.there (.there (.there .here))))))) ?_
                rintro ⟨a18, c19⟩
                refine Ops.to rfl ?_
                refine Cd.region ?_
                refine Ops.q (q_ar rfl rfl (a_inc (by omega))) ?_
                refine Ops.q (q_mv rfl) ?_
                refine Ops.rnd ((k + 1, a18, c19)) rfl (by dsimp only; exact (⟨by omega, by rw [← hI.2]; exact (patE_step hx6 (mrkE_0 h10 h11 h17)).symm⟩)) (by dsimp only; omega) ⟨rfl, rfl, rfl, rfl, rfl, rfl, rfl, rfl, trivial⟩ (fun _ hs => by have h1 := (((((hs.pull (.there (.there (.there (.there .here))))).pull (.there (.there (.there .here)))).pull (.there (.there (.there .here)))).pull (.there (.there (.there .here)))).pull (.there (.there (.there (.there .here))))).drop; dsimp only; rw [mapT _ hx6, ← List.append_assoc]; exact h1) 
            · refine Ops.cp en_57 rfl (fun w hs => dF (in_c _ _ _ w) h11) ?_
              refine Ops.q (q_not rfl) ?_
              refine Ops.q (q_asg rfl) ?_
              refine Ops.to rfl ?_
              refine Cd.cond_t rfl ?_
              refine Cd.seq ?_
              refine Cd.region ?_
              refine Ops.q (q_bld [.slice none 0 0, .int .i64 0, .slice none 0 0] pls_32 zc_32 rfl rfl) ?_
              refine Ops.stB [.slice none 0 0, .int .i64 0, .slice none 0 0] [.slice none 0 0, .int .i64 0, .slice none 0 0] sz_32 rfl rfl rfl (one rfl) (.there (.there (.there (.there .here)))) rfl rfl ?_
              refine Ops.q (q_asg rfl) ?_
              refine Ops.to rfl ?_
              refine Cd.rt (fn := Try.f32) [.agg [.slice none 0 0, .int .i64 0, .slice none 0 0].toArray, .int .i64 3] (by with_reducible repeat (first | exact rq_here | apply rq_then | apply rq_block)) rfl ⟨⟨_, _, rfl, fun _ hs => run_loadN isA_32 sz_32 (fun o u hu => Sat.atB (.there (.there (.there (.there .here)))) (by rw [Nat.zero_add]; exact hu) hs)⟩, rfl, trivial⟩ ?_
              intro w' hs'
              have h8 : mrkE ip (ms.take k) x5 = 3 := mrkE_3 h10 h11
              have h9 : patE ip [] ms = 3 := by rw [← hI.2, patE_stop hx6 (by omega), h8]
              rw [show patP ip ms miss = .error 3 by unfold patP; rw [if_pos h2, if_neg (by omega), if_neg (by omega), h9, if_pos (by decide)]]
              exact ⟨rfl, hs'.none⟩
          · refine Ops.cp en_57 rfl (fun w hs => dF (in_c _ _ _ w) h10) ?_
            refine Ops.q (q_not rfl) ?_
            refine Ops.q (q_asg rfl) ?_
            refine Ops.to rfl ?_
            refine Cd.cond_t rfl ?_
            refine Cd.seq ?_
            refine Cd.region ?_
            refine Ops.q (q_bld [.slice none 0 0, .int .i64 0, .slice none 0 0] pls_32 zc_32 rfl rfl) ?_
            refine Ops.stB [.slice none 0 0, .int .i64 0, .slice none 0 0] [.slice none 0 0, .int .i64 0, .slice none 0 0] sz_32 rfl rfl rfl (one rfl) (.there (.there (.there (.there .here)))) rfl rfl ?_
            refine Ops.q (q_asg rfl) ?_
            refine Ops.to rfl ?_
            refine Cd.rt (fn := Try.f32) [.agg [.slice none 0 0, .int .i64 0, .slice none 0 0].toArray, .int .i64 4] (by with_reducible repeat (first | exact rq_here | apply rq_then | apply rq_block)) rfl ⟨⟨_, _, rfl, fun _ hs => run_loadN isA_32 sz_32 (fun o u hu => Sat.atB (.there (.there (.there (.there .here)))) (by rw [Nat.zero_add]; exact hu) hs)⟩, rfl, trivial⟩ ?_
            intro w' hs'
            have h8 : mrkE ip (ms.take k) x5 = 4 := mrkE_4 h10
            have h9 : patE ip [] ms = 4 := by rw [← hI.2, patE_stop hx6 (by omega), h8]
            rw [show patP ip ms miss = .error 4 by unfold patP; rw [if_pos h2, if_neg (by omega), if_neg (by omega), h9, if_pos (by decide)]]
            exact ⟨rfl, hs'.none⟩
        · refine Ops.q (q_cmp rfl rfl (c_nlt (by omega))) ?_
          refine Ops.to rfl ?_
          refine Cd.seq ?_
          refine Cd.cond_f rfl ?_
          refine Cd.exitTo rfl ?_
          refine Cd.seq ?_
          refine Cd.seq ?_
          refine Cd.region ?_
          refine Ops.q (q_mv rfl) ?_
          refine Ops.q (q_mv rfl) ?_
          refine Ops.q (q_len esz_73 rfl) ?_
          refine Ops.q (q_ar (v := (ms.length : Int) - 1) rfl rfl (a_sub (by omega))) ?_
          by_cases h20 : wi miss 0 ((ms.length : Int) - 1)
          · refine Ops.cp en_57 rfl (fun w hs => dT (in_c _ _ _ w) h20) ?_
            refine Ops.q (q_not rfl) ?_
            refine Ops.to rfl ?_
            refine Cd.cond_f rfl ?_
            refine Cd.skipTo rfl ?_
            refine Cd.seq ?_
            refine Cd.region ?_
            have hmi := h20
            unfold wi at hmi
            refine Ops.cp en_48 rfl (fun w hs => gate_c w) ?_
            refine Ops.cl (α := Nat × Nat) (v := fun x => .func (.func 86) #[] #[.pointer (some ⟨x.1, 0, none⟩), .pointer (some ⟨x.2, 0, none⟩)]) (B := fun x => [blk x.1 116 (ePrm (gateP 0)), blk x.2 161 [.pointer (some ⟨b4, 0, none⟩)]]) en_49 rfl (fun w hs => grow_c b4 (gateP 0) w) ?_
            rintro ⟨pb21, bb22⟩
            refine Ops.q (q_mv rfl) ?_
            refine Ops.q (q_len esz_73 rfl) ?_
            refine Ops.q (q_mv rfl) ?_
            refine Ops.q (q_ar (v := (ms.length : Int) - miss) rfl rfl (a_sub (by omega))) ?_
            refine Ops.lit [.int .i64 ((ms.length : Int) - miss)] el_26 zsb_3 rfl rfl ⟨by decide, by decide⟩ rfl ?_
            intro b23
            refine Ops.cv (α := Option Addr × Nat) (k := 86) (first := []) (caps := [.pointer (some ⟨pb21, 0, none⟩), .pointer (some ⟨bb22, 0, none⟩)]) (vs := [.slice (some ⟨b23, 0, none⟩) ([((ms.length : Int) - miss)].length) 1]) (v := fun _ => .tuple #[]) (A' := fun p => [blk b4 114 [.slice p.1 ((([] : List Prm) ++ [((ms.length : Int) - miss)].map (setTh (gateP 0))).length) p.2, .int .i64 ip, .slice qa ((([] : List Syn) ++ (ms.take k).map mrkS).length) qc], row p.1 p.2 116 8 ((([] : List Prm) ++ [((ms.length : Int) - miss)].map (setTh (gateP 0))).length) ((([] : List Prm) ++ [((ms.length : Int) - miss)].map (setTh (gateP 0))).flatMap ePrm), row qa qc 126 4 ((([] : List Syn) ++ (ms.take k).map mrkS).length) ((([] : List Syn) ++ (ms.take k).map mrkS).flatMap eSyn), blk pb21 116 (ePrm (gateP 0)), blk bb22 161 [.pointer (some ⟨b4, 0, none⟩)], row (some ⟨b23, 0, none⟩) 1 3 1 ([((ms.length : Int) - miss)].length) ([((ms.length : Int) - miss)].flatMap eInt), blk b1 32 [.slice none 0 0, .int .i64 0, .slice none 0 0]]) en_86 rfl rfl (fun w hs => grown_c b4 _ _ _ _ ([] : List Prm) _ (([] : List Syn) ++ (ms.take k).map mrkS) pb21 bb22 _ _ [((ms.length : Int) - miss)] _ _ w _ (by simp only [List.length_cons, List.length_nil]; omega) ((((((((hs.pull (.there (.there (.there (.there (.there (.there .here))))))).pull (.there .here)).pull (.there (.there (.there .here)))).pull (.there (.there (.there .here)))).pull (.there (.there (.there (.there (.there (.there .here))))))).pull (.there (.there (.there (.there (.there (.there .here))))))).pull (.there (.there (.there (.there (.there (.there .here))))))))) ?_
            rintro ⟨a24, c25⟩
            refine Ops.to rfl ?_
            refine Cd.seq ?_
            refine Cd.region ?_
            refine Ops.q (q_fa fo_114_0 rfl) ?_
            refine Ops.q (q_ldBN [.slice a24 ((([] : List Prm) ++ [((ms.length : Int) - miss)].map (setTh (gateP 0))).length) c25, .int .i64 ip, .slice qa ((([] : List Syn) ++ (ms.take k).map mrkS).length) qc] isA_32 sz_32 rfl .here rfl) ?_
            refine Ops.stB [.slice a24 ((([] : List Prm) ++ [((ms.length : Int) - miss)].map (setTh (gateP 0))).length) c25, .int .i64 ip, .slice qa ((([] : List Syn) ++ (ms.take k).map mrkS).length) qc] [.slice a24 ((([] : List Prm) ++ [((ms.length : Int) - miss)].map (setTh (gateP 0))).length) c25, .int .i64 ip, .slice qa ((([] : List Syn) ++ (ms.take k).map mrkS).length) qc] sz_32 rfl rfl rfl (one rfl) (.there (.there (.there (.there (.there (.there .here)))))) rfl rfl ?_
            refine Ops.q (q_asg rfl) ?_
            refine Ops.to rfl ?_
            refine Cd.rt (fn := Try.f32) [.agg [.slice a24 ((([] : List Prm) ++ [((ms.length : Int) - miss)].map (setTh (gateP 0))).length) c25, .int .i64 ip, .slice qa ((([] : List Syn) ++ (ms.take k).map mrkS).length) qc].toArray, .int .i64 0] (by with_reducible repeat (first | exact rq_here | apply rq_then | apply rq_block)) rfl ⟨⟨_, _, rfl, fun _ hs => run_loadN isA_32 sz_32 (fun o u hu => Sat.atB (.there (.there (.there (.there (.there (.there .here)))))) (by rw [Nat.zero_add]; exact hu) hs)⟩, rfl, trivial⟩ ?_
            intro w' hs'
            have h9 : patE ip [] ms = 0 := by rw [← hI.2, patE_end (by omega)]
            have hP : patP ip ms miss = .ok ⟨(([] : List Prm) ++ [((ms.length : Int) - miss)].map (setTh (gateP 0))), ip, (([] : List Syn) ++ ms.map mrkS)⟩ := by unfold patP; rw [if_pos h2, if_neg (by omega), if_neg (by omega), h9, if_neg (by decide), if_pos h20]; rfl
            rw [List.take_of_length_le (show ms.length ≤ k by omega)] at hs'
            rw [hP]
            exact ⟨(a24, c25), (qa, qc), by rw [List.take_of_length_le (show ms.length ≤ k by omega)]; rfl, (((((((hs'.pull (.there (.there .here))).pull (.there (.there .here))).pull (.there (.there .here))).drop.pull (.there (.there .here))).drop.pull (.there (.there .here))).drop.pull (.there (.there .here))).drop.pull (.there (.there .here))).drop⟩
          · refine Ops.cp en_57 rfl (fun w hs => dF (in_c _ _ _ w) h20) ?_
            refine Ops.q (q_not rfl) ?_
            refine Ops.to rfl ?_
            refine Cd.cond_t rfl ?_
            refine Cd.seq ?_
            refine Cd.region ?_
            refine Ops.q (q_bld [.slice none 0 0, .int .i64 0, .slice none 0 0] pls_32 zc_32 rfl rfl) ?_
            refine Ops.stB [.slice none 0 0, .int .i64 0, .slice none 0 0] [.slice none 0 0, .int .i64 0, .slice none 0 0] sz_32 rfl rfl rfl (one rfl) (.there (.there (.there .here))) rfl rfl ?_
            refine Ops.q (q_asg rfl) ?_
            refine Ops.to rfl ?_
            refine Cd.rt (fn := Try.f32) [.agg [.slice none 0 0, .int .i64 0, .slice none 0 0].toArray, .int .i64 3] (by with_reducible repeat (first | exact rq_here | apply rq_then | apply rq_block)) rfl ⟨⟨_, _, rfl, fun _ hs => run_loadN isA_32 sz_32 (fun o u hu => Sat.atB (.there (.there (.there .here))) (by rw [Nat.zero_add]; exact hu) hs)⟩, rfl, trivial⟩ ?_
            intro w' hs'
            have h9 : patE ip [] ms = 0 := by rw [← hI.2, patE_end (by omega)]
            rw [show patP ip ms miss = .error 3 by unfold patP; rw [if_pos h2, if_neg (by omega), if_neg (by omega), h9, if_neg (by decide), if_neg h20]]
            exact ⟨rfl, hs'.none⟩
  · refine Ops.cp en_57 rfl (fun w hs => dF (in_c _ _ _ w) h2) ?_
    refine Ops.q (q_not rfl) ?_
    refine Ops.q (q_asg rfl) ?_
    refine Ops.to rfl ?_
    refine Cd.cond_t rfl ?_
    refine Cd.seq ?_
    refine Cd.region ?_
    refine Ops.q (q_bld [.slice none 0 0, .int .i64 0, .slice none 0 0] pls_32 zc_32 rfl rfl) ?_
    refine Ops.stB [.slice none 0 0, .int .i64 0, .slice none 0 0] [.slice none 0 0, .int .i64 0, .slice none 0 0] sz_32 rfl rfl rfl (one rfl) .here rfl rfl ?_
    refine Ops.q (q_asg rfl) ?_
    refine Ops.to rfl ?_
    refine Cd.rt (fn := Try.f32) [.agg [.slice none 0 0, .int .i64 0, .slice none 0 0].toArray, .int .i64 3] (by with_reducible repeat (first | exact rq_here | apply rq_then | apply rq_block)) rfl ⟨⟨_, _, rfl, fun _ hs => run_loadN isA_32 sz_32 (fun o u hu => Sat.atB .here (by rw [Nat.zero_add]; exact hu) hs)⟩, rfl, trivial⟩ ?_
    intro w' hs'
    rw [show patP ip ms miss = .error 3 by unfold patP; rw [if_neg h2]]
    exact ⟨rfl, hs'.none⟩
end Go.Proofs.Ytilcdghliigngaa
namespace Go.Proofs.YtilcdghliigngaaGl
set_option linter.unusedVariables false
set_option linter.unusedSimpArgs false
open Go.RowKit
section
variable {P : Program} {r : Option Nat} {ops : Array Oper} {Q : Exit → Act → World → Prop} {w0 : World} {n : Nat} {D : List Deferred} {rest : List Oper} {L : Env} {A : List Atom}
variable {t : Nat} {ty : TypeId} {pos : String} {af : Array Edge} {g : Option (Nat × Bool)}
theorem sat_ext {w : World} {b cap sz m k : Nat} {E : TypeId} {cs : List Value} (h : Sat w0 w (row (some ⟨b, 0, none⟩) cap E sz m cs :: A)) (hk : m + k ≤ cap) :
    ∃ xs : List Value, xs.length = k * sz ∧ Sat w0 w (row (some ⟨b, 0, none⟩) cap E sz (m + k) (cs ++ xs) :: A) := by
  obtain ⟨S, hS, _, hgo⟩ := h.step
  obtain ⟨⟨hlen, hown⟩, hSb⟩ := hS
  rcases hown with ⟨h0, _⟩ | ⟨b', cap', cur, hv0, _, hh, h2, h3, h4, h5⟩
  · cases h0
  · cases hv0
    have hsz : (m + k) * sz ≤ cur.size := by rw [h4]; exact Nat.mul_le_mul_right _ hk
    refine ⟨(cur.toList.drop (m * sz)).take (k * sz), ?_, ?_⟩
    · rw [List.length_take, List.length_drop, Array.length_toList]
      rw [Nat.add_mul] at hsz; omega
    · refine hgo (S' := fun q => (Value.slice (some ⟨b, 0, none⟩) (m + k) cap).ownBlock = some q) ⟨⟨?_, .inr ⟨b, cap, cur, rfl, Nat.zero_le _, hh, hk, h3, h4, ?_⟩⟩, fun _ => Iff.rfl⟩ (fun q hq => .inl ((hSb q).2 (by simpa [Value.ownBlock] using hq))) rfl rfl rfl (Nat.le_refl _) (fun _ _ _ => rfl)
      · rw [List.length_append, hlen, List.length_take, List.length_drop, Array.length_toList]
        rw [Nat.add_mul] at hsz ⊢; omega
      · rw [← h5, Nat.add_mul, List.take_add]
theorem Ops.ext {b cap sz m k : Nat} {E : TypeId} {cs : List Value} {R : List Atom} (hp : Pull A (row (some ⟨b, 0, none⟩) cap E sz m cs) R) (hk : m + k ≤ cap)
    (h : ∀ xs, xs.length = k * sz → Ops P r ops Q w0 n D rest L (row (some ⟨b, 0, none⟩) cap E sz (m + k) (cs ++ xs) :: R)) : Ops P r ops Q w0 n D rest L A := fun ac w hkn hs => by
  obtain ⟨xs, hl, hs'⟩ := sat_ext (hs.pull hp) hk
  exact h xs hl ac w hkn hs'
theorem Ops.appzG {x y : Operand} {T N E : TypeId} {kn : IntKind} {zs olds : List Value} {sz by_ m k cap : Nat} {a : Option Addr} (hT : elT P T = some E) (hN : iK P N = some kn) (hE : zsb P E = some (zs, sz, by_)) (hs0 : 0 < sz) (hx : ev L x = some (.slice a m cap)) (hy : ev L y = some (.int .i64 (k : Int)))
    (hk : 0 < k) (hc : cap < m + k) (ho : ∀ w, Sat w0 w A → Ro w a olds) (hol : olds.length = m * sz) (hb : (m + k) * by_ ≤ 140737488355328) (hb' : m + k ≤ 70368744177664)
    (h : ∀ b cap', m + k ≤ cap' → Ops P r ops Q w0 n D rest ((t, .slice (some ⟨b, 0, none⟩) (m + k) cap') :: L) (row (some ⟨b, 0, none⟩) cap' E sz (m + k) (olds ++ rep k zs) :: A))
    (hg : gd ops L ⟨some t, .call ⟨.builtin .append, #[x, y], #[T, N]⟩, ty, pos, af, g⟩ = some true := by rfl) (ht : Nat.blt t n = true := by rfl) :
    Ops P r ops Q w0 n D (⟨some t, .call ⟨.builtin .append, #[x, y], #[T, N]⟩, ty, pos, af, g⟩ :: rest) L A :=
  Ops.val (α := {p : Nat × Nat // m + k ≤ p.2}) (v := fun p => .slice (some ⟨p.1.1, 0, none⟩) (m + k) p.1.2) (A' := fun p => row (some ⟨p.1.1, 0, none⟩) p.1.2 E sz (m + k) (olds ++ rep k zs) :: A) hg rfl ht rfl (fun ac w hkn hs => by
    obtain ⟨i, z, hi, hz, hsz, hby, hzs, hzl⟩ := zsb_u hE
    have hro := ho w.drew hs.drew
    have hf := run_first (P := P) (w := w.drew) (sl := m) (sc := cap) hro hol
    have hkb : k * by_ ≤ 281474976710656 := Nat.le_trans (Nat.mul_le_mul_right by_ (show k ≤ m + k by omega)) (by omega)
    have hr := Lib.run_append_grow_zeros (P := P) w T N ty E i z .i64 kn (elT_u hT) (iK_u hN) hi hz a m cap olds (by rw [hsz]; exact hf) k hk (by rw [hsz]; exact hs0) hc (by omega) (by rw [hby]; exact hkb)
      (by rw [hby]; exact growslice_fits hc hb)
    have hge : m + k ≤ grownCap w (m + k) cap E := grownCap_ge _ _ _ _
    refine ⟨⟨(w.heap.size, grownCap w (m + k) cap E), hge⟩, w.drew.alloc (.cells (olds.toArray ++ Builtin.zeroCells z.cells k ++ Builtin.zeroCells z.cells (grownCap w (m + k) cap E - (m + k))) E), by simp only [execOp, resolve, invoke, builtin, hkn.ev hx, hkn.ev hy, List.map_toArray, List.map_cons, List.map_nil, Sem.run_bind, Sem.run_pure, Result.andThen_ok, hr], ?_⟩
    have hzc : ∀ q, (Builtin.zeroCells z.cells q).toList = rep q zs := fun q => by rw [← hzl, ← rep_eq]; rfl
    have hzn : ∀ q, (Builtin.zeroCells z.cells q).size = q * sz := fun q => by rw [← Array.length_toList, hzc, rep_length, ← hzl, Array.length_toList, hzs]
    refine hs.drew.add (Below.alloc (Below.refl _ _) (Nat.le_refl _) _) (S := fun q => q = w.heap.size) ⟨⟨?_, .inr ⟨w.heap.size, _, _, rfl, Nat.zero_le _, heap_alloc_new _ _, hge, grownCap_le_maxLen _ _ _ _ (by simp only [maxLen]; omega), ?_, ?_⟩⟩, fun q => by simp [Value.ownBlock, eq_comm]⟩ (fun q hq => by subst hq; exact Nat.le_refl _)
    · rw [List.length_append, hol, rep_length, ← hzl, Array.length_toList, hzs, Nat.add_mul]
    · simp only [Array.size_append, List.size_toArray, hzn, hol]
      rw [← Nat.add_mul, ← Nat.add_mul]; congr 1; omega
    · have e : (olds ++ rep k zs).length = (m + k) * sz := by rw [List.length_append, hol, rep_length, ← hzl, Array.length_toList, hzs, Nat.add_mul]
      simp only [Array.toList_append, List.toList_toArray, hzc]
      rw [← e, List.take_left]) (fun p => h p.1.1 p.1.2 p.2)
theorem Ops.appzQ {x y : Operand} {T N E : TypeId} {kn : IntKind} {zs olds : List Value} {sz by_ m k q cap : Nat} {a : Option Addr} (hT : elT P T = some E) (hN : iK P N = some kn) (hE : zsb P E = some (zs, sz, by_)) (hs0 : 0 < sz) (hx : ev L x = some (.slice a m cap)) (hy : ev L y = some (.int .i64 (k : Int)))
    (hk : 0 < k) (hc : cap < m + k) (hq : m + k = q) (ho : ∀ w, Sat w0 w A → Ro w a olds) (hol : olds.length = m * sz) (hb : (m + k) * by_ ≤ 140737488355328) (hb' : m + k ≤ 70368744177664)
    (h : ∀ b cap', q ≤ cap' → Ops P r ops Q w0 n D rest ((t, .slice (some ⟨b, 0, none⟩) q cap') :: L) (row (some ⟨b, 0, none⟩) cap' E sz q (olds ++ rep k zs) :: A))
    (hg : gd ops L ⟨some t, .call ⟨.builtin .append, #[x, y], #[T, N]⟩, ty, pos, af, g⟩ = some true := by rfl) (ht : Nat.blt t n = true := by rfl) :
    Ops P r ops Q w0 n D (⟨some t, .call ⟨.builtin .append, #[x, y], #[T, N]⟩, ty, pos, af, g⟩ :: rest) L A := by
  subst hq
  exact Ops.appzG hT hN hE hs0 hx hy hk hc ho hol hb hb' h hg ht
theorem Ops.xt {k : FuncId} {xs : List Operand} {ats : Array TypeId} {vs : List Value} {v : Value} (hx : evs L xs = some vs)
    (hc : ∀ w, Sat w0 w A → (callFunc k vs.toArray).run P w = .ok (.value v) w)
    (h : Ops P r ops Q w0 n D rest ((t, v) :: L) A)
    (hg : gd ops L ⟨some t, .call ⟨.value (.func k), xs.toArray, ats⟩, ty, pos, af, g⟩ = some true := by rfl) (ht : Nat.blt t n = true := by rfl) :
    Ops P r ops Q w0 n D (⟨some t, .call ⟨.value (.func k), xs.toArray, ats⟩, ty, pos, af, g⟩ :: rest) L A :=
  Ops.same hg rfl ht rfl (fun a w hk hs => by
    have e : xs.toArray.map a.eval = vs.toArray := by rw [List.map_toArray, evs_ok hk hx]
    have e2 : a.eval (.func k) = .func (.func k) #[] #[] := rfl
    simp only [execOp, resolve, e, e2, Deferred.ofValue, Sem.run_bind, Sem.run_pure, Result.andThen_ok, invoke]
    simpa using hc w hs) h
theorem sat_shape {w : World} {b cap sz m : Nat} {E : TypeId} {cs : List Value} {R : List Atom} (h : Sat w0 w A) (hp : Pull A (row (some ⟨b, 0, none⟩) cap E sz m cs) R) : w.shape? b = some (E, cap * sz) ∧ ∀ o, w.frozen? ⟨b, o, none⟩ = false := by
  obtain ⟨hlen, hown⟩ := h.own hp
  rcases hown with ⟨h0, _⟩ | ⟨b', cap', cur, hv0, _, hh, h2, h3, h4, h5⟩
  · cases h0
  · cases hv0
    refine ⟨by simp [World.shape?, hh, h4], fun o => by simp [World.frozen?, hh]⟩
theorem sat_apart {w : World} {b b' cap cap' sz sz' m m' : Nat} {E E' : TypeId} {cs cs' : List Value} {R R' : List Atom} (h : Sat w0 w A) (hp : Pull A (row (some ⟨b, 0, none⟩) cap E sz m cs) R) (hq : Pull R (row (some ⟨b', 0, none⟩) cap' E' sz' m' cs') R') : b ≠ b' := by
  obtain ⟨_, T, ⟨S, U, ha, hA, hd, _⟩, _⟩ := h.pull hp
  obtain ⟨S', U', hb, _, _, ht'⟩ := Sats.pull hq hA
  rintro rfl
  exact hd b ((ha.2 b).2 rfl) ((ht' b).2 (.inl ((hb.2 b).2 rfl)))
theorem q_cutA {T : TypeId} {x y : Operand} {m z b o k : Nat} {kd : IntKind} (hz : asz P T = some (m, z)) (hx : ev L x = some (.pointer (some ⟨b, o, none⟩))) (hy : ev L y = some (.int kd (k : Int))) (hk : k ≤ m) :
    Qv P w0 n D L A (.slice T x none (some y) none) (.slice (some ⟨b, o, none⟩) k m) := fun ac w hk' _ _ _ _ _ _ => ⟨by
    unfold asz at hz
    cases hu : P.underlying T with
    | none => rw [hu] at hz; cases hz
    | some d =>
      rw [hu] at hz
      cases d <;> try (cases hz; done)
      rename_i n' e
      obtain ⟨i', hi, he⟩ := Option.map_eq_some_iff.1 hz
      simp only [Prod.mk.injEq] at he
      obtain ⟨rfl, rfl⟩ := he
      have h1 : (0 ≤ (k : Int) ∧ (k : Int) ≤ (n' : Int)) := by omega
      simp [execOp, hk'.ev hx, hk'.ev hy, Instr.sliceAt, run_underlying hu, Instr.sureAddr, Instr.sliceBounds, Instr.sliceBound, asIntOf, h1, hk, sizeOf, typeInfo, hi, add_at], rfl⟩
theorem sat_rowle {w : World} {b cap sz m : Nat} {E : TypeId} {cs : List Value} {R : List Atom} (h : Sat w0 w A) (hp : Pull A (row (some ⟨b, 0, none⟩) cap E sz m cs) R) : m ≤ cap := by
  obtain ⟨hlen, hown⟩ := h.own hp
  rcases hown with ⟨h0, _⟩ | ⟨b', cap', cur, hv0, _, hh, h2, h3, h4, h5⟩
  · cases h0
  · cases hv0; exact h2
theorem Ops.rowle {b cap sz m : Nat} {E : TypeId} {cs : List Value} {R : List Atom} (hp : Pull A (row (some ⟨b, 0, none⟩) cap E sz m cs) R)
    (h : m ≤ cap → Ops P r ops Q w0 n D rest L A) : Ops P r ops Q w0 n D rest L A := fun ac w hkn hs => h (sat_rowle hs hp) ac w hkn hs
end
end Go.Proofs.YtilcdghliigngaaGl
namespace Go.Proofs.Ytilcdghliigngaa
open Go.RowKit Go.Proofs.YtilcdghliigngaaGl Go.Proofs.YtilcdghliigngaaPm
set_option linter.unusedVariables false
set_option linter.unusedSimpArgs false
def insI {α : Type} (xs : List α) (i : Nat) (y : α) : List α := xs.take i ++ [y] ++ xs.drop i
theorem insI_len {α : Type} {xs : List α} {i : Nat} {y : α} (h : i ≤ xs.length) : (insI xs i y).length = xs.length + 1 := by
  simp only [insI, List.length_append, List.length_take, List.length_drop, List.length_cons, List.length_nil]; omega
theorem Ro.mid {w : World} {b o k : Nat} {X Z R : List Value} (h : Ro w (some ⟨b, o, none⟩) (X ++ Z ++ R)) (hk : X.length = k) : Ro w (some ⟨b, o + k, none⟩) Z := fun j u hu => by
  have hj := (List.getElem?_eq_some_iff.1 hu).1
  obtain ⟨b', o', he, hc⟩ := h (k + j) u (by
    rw [List.append_assoc, List.getElem?_append_right (by omega), hk, Nat.add_sub_cancel_left, List.getElem?_append_left hj]; exact hu)
  cases he
  exact ⟨b, o + k, rfl, by rw [Nat.add_assoc]; exact hc⟩
theorem grow3 {X R Y Z : List Value} {o o2 : Nat} (hX : X.length = o) (hY : o + Y.length = o2) (hR : R.length = Y.length + Z.length) :
    ((X ++ R).take o ++ Y ++ (X ++ R).drop (o + Y.length)).take o2 ++ Z ++ ((X ++ R).take o ++ Y ++ (X ++ R).drop (o + Y.length)).drop (o2 + Z.length) = X ++ Y ++ Z := by
  subst hX; subst hY
  have e1 : (X ++ R).take X.length = X := List.take_left
  have e2 : (X ++ R).drop (X.length + Y.length) = R.drop Y.length := by
    rw [← List.drop_drop, List.drop_left]
  rw [e1, e2]
  have e3 : (X ++ Y ++ R.drop Y.length).take (X.length + Y.length) = X ++ Y := by
    rw [← List.length_append]; exact List.take_left
  have e4 : (X ++ Y ++ R.drop Y.length).drop (X.length + Y.length + Z.length) = [] := List.drop_eq_nil_of_le (by simp only [List.length_append, List.length_drop]; omega)
  rw [e3, e4, List.append_nil]
theorem room3 {X Z zs Y : List Value} {o o2 : Nat} (hX : X.length = o) (hY : o + Y.length = o2) (hz : zs.length = Y.length) :
    ((X ++ Z ++ zs).take o2 ++ Z ++ (X ++ Z ++ zs).drop (o2 + Z.length)).take o ++ Y ++ ((X ++ Z ++ zs).take o2 ++ Z ++ (X ++ Z ++ zs).drop (o2 + Z.length)).drop (o + Y.length) = X ++ Y ++ Z := by
  subst hX; subst hY
  have e1 : (X ++ Z ++ zs).drop (X.length + Y.length + Z.length) = [] := List.drop_eq_nil_of_le (by simp only [List.length_append]; omega)
  rw [e1, List.append_nil]
  have hT : ((X ++ Z ++ zs).take (X.length + Y.length)).length = X.length + Y.length := by simp only [List.length_take, List.length_append]; omega
  have e2 : ((X ++ Z ++ zs).take (X.length + Y.length) ++ Z).take X.length = X := by
    rw [List.take_append_of_le_length (by omega), List.take_take, Nat.min_eq_left (by omega), List.append_assoc]; exact List.take_left
  have e3 : ((X ++ Z ++ zs).take (X.length + Y.length) ++ Z).drop (X.length + Y.length) = Z := by
    exact List.drop_left' hT
  rw [e2, e3]
theorem fm_split {α : Type} (f : α → List Value) (xs : List α) (i : Nat) : xs.flatMap f = (xs.take i).flatMap f ++ (xs.drop i).flatMap f := by
  rw [← List.flatMap_append, List.take_append_drop]
theorem insI_fm (xs : List Evt) (i : Nat) (y : Evt) : (insI xs i y).flatMap eEvt = (xs.take i).flatMap eEvt ++ eEvt y ++ (xs.drop i).flatMap eEvt := by
  rw [insI, List.flatMap_append, List.flatMap_append]; simp
theorem tk_len {xs : List Evt} {i : Nat} (h : i ≤ xs.length) : ((xs.take i).flatMap eEvt).length = i * 2 := by
  rw [fm_length eEvt_len, List.length_take, Nat.min_eq_left h]
theorem dr_len {xs : List Evt} {i : Nat} : ((xs.drop i).flatMap eEvt).length = (xs.length - i) * 2 := by
  rw [fm_length eEvt_len, List.length_drop]
theorem ovl_c {w0 w : World} {A R R' : List Atom} {vb rb o cap m lb cb vc vn : Nat} {cs cs' : List Value} (hs : Sat w0 w A) (hp : Pull A (row (some ⟨vb, 0, none⟩) vc 88 2 vn cs) R) (hq : Pull R (row (some ⟨rb, 0, none⟩) cap 88 2 m cs') R') (hc : 0 < cap) (la ca : Nat) :
    (callFunc 88 [.slice (some ⟨vb, 0, none⟩) la ca, .slice (some ⟨rb, o, none⟩) lb cb].toArray).run Try.prog w = .ok (.value (.bool false)) w := by
  obtain ⟨h1, h2⟩ := sat_shape hs hp
  obtain ⟨h3, h4⟩ := sat_shape ((hs.pull hp).drop) hq
  have hz : ∀ w, (Go.sizeOf 88).run Try.prog w = .ok 2 w := fun w => Go.Proofs.YtilcdghliigngaaGl.run_sizeOf sz_88
  rw [run_callFunc_extern Try.func88 (by kernel_rfl) (by kernel_rfl) (by kernel_rfl) (e := Extern.SlicesOverlaps.overlaps #[27, 27] #[4]) (by kernel_rfl),
    show [Value.slice (some ⟨vb, 0, none⟩) la ca, Value.slice (some ⟨rb, o, none⟩) lb cb].toArray = #[.slice (some ⟨vb, 0, none⟩) la ca, .slice (some ⟨rb, o, none⟩) lb cb] from rfl,
    Lib.run_overlaps_apart w 27 4 88 (elT_u el_27) 2 hz ⟨vb, 0, none⟩ ⟨rb, o, none⟩ la ca lb cb (sat_apart hs hp hq) 88 88 (vc * 2) (cap * 2) h1 h3 (by omega) (h2 0) (h2 (vc * 2))]
  rfl
theorem insert_c (a : Option Addr) (cap vb i : Nat) (xs : List Evt) (y : Evt) (w0 w : World) (F : List Atom) (hi : i ≤ xs.length) (hl : xs.length ≤ 1000000) (hs : Sat w0 w (row a cap 88 2 xs.length (xs.flatMap eEvt) :: row (some ⟨vb, 0, none⟩) 1 88 2 1 (eEvt y) :: F)) :
    Calls Try.prog 58 [.slice a xs.length cap, .int .i64 (i : Int), .slice (some ⟨vb, 0, none⟩) 1 1].toArray w fun e w' => ∃ p : Option Addr × Nat, e = .returned (.slice p.1 (insI xs i y).length p.2) ∧ Sat w0 w' (row p.1 p.2 88 2 (insI xs i y).length ((insI xs i y).flatMap eEvt) :: F) := by
  refine fstart Try.func58 rfl rfl hs ?_
  refine Cd.seq ?_
  refine Cd.region ?_
  refine Ops.q (q_asg rfl) ?_
  refine Ops.to rfl ?_
  refine Cd.seq ?_
  refine Cd.region ?_
  refine Ops.q (q_mv rfl) ?_
  refine Ops.q (q_mv rfl) ?_
  refine Ops.q (q_cut (k := i) el_27 sz_88 rfl rfl (by omega)) ?_
  refine Ops.to rfl ?_
  refine Cd.seq ?_
  refine Cd.region ?_
  refine Ops.q (q_mv rfl) ?_
  refine Ops.q (q_len esz_27 rfl) ?_
  refine Ops.q (q_asg rfl) ?_
  refine Ops.to rfl ?_
  refine Cd.seq ?_
  refine Cd.seq ?_
  refine Cd.region ?_
  refine Ops.q (q_mv rfl) ?_
  refine Ops.q (q_cmp rfl rfl (c_neq (by decide))) ?_
  refine Ops.to rfl ?_
  refine Cd.cond_f rfl ?_
  refine Cd.skipTo rfl ?_
  refine Cd.seq ?_
  refine Cd.region ?_
  refine Ops.q (q_mv rfl) ?_
  refine Ops.q (q_len esz_27 rfl) ?_
  refine Ops.q (q_asg rfl) ?_
  refine Ops.to rfl ?_
  refine Cd.seq ?_
  refine Cd.seq ?_
  refine Cd.region ?_
  refine Ops.q (q_mv rfl) ?_
  refine Ops.q (q_mv rfl) ?_
  by_cases he : (i : Int) = (xs.length : Int)
  · refine Ops.q (q_cmp rfl rfl (c_eq he)) ?_
    refine Ops.to rfl ?_
    refine Cd.cond_t rfl ?_
    refine Cd.seq ?_
    refine Cd.region ?_
    refine Ops.q (q_mv rfl) ?_
    refine Ops.q (q_mv rfl) ?_
    refine Ops.app (news := (eEvt y)) el_27 zsb_88 (by decide) rfl rfl (fun _ hs => hs.ownRo (.there .here)) (fun _ hs => (hs.pull (.there .here)).drop) (fun _ _ => .here) rfl (one rfl) (by omega) (by omega) ?_
    intro a1 c2
    refine Ops.q (q_asg rfl) ?_
    refine Ops.to rfl ?_
    refine Cd.rt (fn := Try.f58) [.slice a1 (xs.length + 1) c2] (by with_reducible repeat (first | exact rq_here | apply rq_then | apply rq_block)) rfl ⟨rfl, trivial⟩ ?_
    intro w' hs'
    have hil : i = xs.length := by omega
    refine ⟨(a1, c2), by rw [insI_len hi]; rfl, ?_⟩
    rw [insI_len hi, insI_fm, List.take_of_length_le (show xs.length ≤ i by omega), List.drop_eq_nil_of_le (show xs.length ≤ i by omega), List.flatMap_nil, List.append_nil]
    exact (hs'.pull .here)
  · refine Ops.q (q_cmp rfl rfl (c_neq he)) ?_
    refine Ops.rowpos .here (by omega) ?_
    rintro rb rfl
    refine Ops.rowle .here (fun hle => ?_)
    have htl := tk_len (xs := xs) (i := i) hi
    have hdl := dr_len (xs := xs) (i := i)
    have hll := eEvt_len y
    refine Ops.to rfl ?_
    refine Cd.cond_f rfl ?_
    refine Cd.skipTo rfl ?_
    refine Cd.seq ?_
    refine Cd.seq ?_
    refine Cd.region ?_
    refine Ops.q (q_mv rfl) ?_
    refine Ops.q (q_mv rfl) ?_
    refine Ops.q (q_ar rfl rfl (a_inc (by omega))) ?_
    refine Ops.q (q_mv rfl) ?_
    refine Ops.q (q_cap el_27 rfl) ?_
    by_cases hroom : (cap : Int) < ((xs.length + 1 : Nat) : Int)
    · refine Ops.q (q_cmp rfl rfl (c_gt hroom)) ?_
      refine Ops.to rfl ?_
      refine Cd.cond_t rfl ?_
      refine Cd.seq ?_
      refine Cd.region ?_
      refine Ops.q (q_mv rfl) ?_
      refine Ops.q (q_mv rfl) ?_
      refine Ops.q (q_cutHP (k := i) el_27 sz_88 rfl rfl (by omega)) ?_
      refine Ops.q (q_mv rfl) ?_
      refine Ops.q (q_mv rfl) ?_
      refine Ops.q (q_ar rfl rfl (a_inc (by omega))) ?_
      refine Ops.q (q_mv rfl) ?_
      refine Ops.q (q_ar (v := ((xs.length + 1 - i : Nat) : Int)) rfl rfl ((by rw [a_sub (by omega)]; congr 1; omega))) ?_
      refine Ops.appzQ (m := i) (k := xs.length + 1 - i) (q := xs.length + 1) (olds := ((xs.take i).flatMap eEvt)) el_27 iK_3 zsb_88 (by decide) rfl rfl (by omega) (by omega) (by omega) (fun _ hs => RoL.take (hs.ownRo .here) i) htl (by omega) (by omega) ?_
      intro nb nc hnc
      have hrl : (rep (xs.length + 1 - i) [.int .i64 0, .int .i64 0]).length = (xs.length + 1 - i) * 2 := rep_length _ _
      refine Ops.q (q_asg rfl) ?_
      refine Ops.to rfl ?_
      refine Cd.seq ?_
      refine Cd.region ?_
      refine Ops.q (q_mv rfl) ?_
      refine Ops.q (q_mv rfl) ?_
      refine Ops.q (q_cutP (k := i) el_27 sz_88 rfl rfl (by omega) (by omega)) ?_
      refine Ops.q (q_mv rfl) ?_
      refine Ops.cpy (k := 1) (news := (eEvt y)) (cs' := ((((xs.take i).flatMap eEvt) ++ rep (xs.length + 1 - i) [.int .i64 0, .int .i64 0]).take (0 + i * 2) ++ (eEvt y) ++ (((xs.take i).flatMap eEvt) ++ rep (xs.length + 1 - i) [.int .i64 0, .int .i64 0]).drop (0 + i * 2 + (eEvt y).length))) el_27 sz_88 rfl rfl (by omega) (fun _ hs => hs.ownRo (.there (.there .here))) (rfl) (one rfl) .here (by simp only [List.length_append, List.length_take, List.length_drop, htl, hdl, hll, hrl]; omega) rfl ?_
      refine Ops.to rfl ?_
      refine Cd.seq ?_
      refine Cd.draw rfl (by kernel_rfl) .nil ?_
      intro F3 St4 hP5 hF6 hR7
      refine Dr.q (i := 0) hP5 rfl (by kernel_rfl) (q_mv rfl) ?_
      refine Dr.q (i := 1) hP5 rfl (by kernel_rfl) (q_mv rfl) ?_
      refine Dr.q (i := 2) hP5 rfl (by kernel_rfl) (q_mv rfl) ?_
      refine Dr.q (i := 3) hP5 rfl (by kernel_rfl) (q_ar (v := ((i + 1 : Nat) : Int)) rfl rfl (a_inc (by omega))) ?_
      refine Dr.q (i := 4) hP5 rfl (by kernel_rfl) (q_cutP (k := i + 1) el_27 sz_88 rfl rfl (by omega) (by omega)) ?_
      refine Dr.q (i := 5) hP5 rfl (by kernel_rfl) (q_mv rfl) ?_
      refine Dr.q (i := 6) hP5 rfl (by kernel_rfl) (q_mv rfl) ?_
      refine Dr.q (i := 7) hP5 rfl (by kernel_rfl) (q_cutP (k := i) el_27 sz_88 rfl rfl (by omega) (by omega)) ?_
      refine Dr.e (i := 8) rfl (by kernel_rfl) ?_
      refine Ops.cpy (k := xs.length - i) (news := ((xs.drop i).flatMap eEvt)) (cs' := (((((xs.take i).flatMap eEvt) ++ rep (xs.length + 1 - i) [.int .i64 0, .int .i64 0]).take (0 + i * 2) ++ (eEvt y) ++ (((xs.take i).flatMap eEvt) ++ rep (xs.length + 1 - i) [.int .i64 0, .int .i64 0]).drop (0 + i * 2 + (eEvt y).length)).take (0 + (i + 1) * 2) ++ ((xs.drop i).flatMap eEvt) ++ ((((xs.take i).flatMap eEvt) ++ rep (xs.length + 1 - i) [.int .i64 0, .int .i64 0]).take (0 + i * 2) ++ (eEvt y) ++ (((xs.take i).flatMap eEvt) ++ rep (xs.length + 1 - i) [.int .i64 0, .int .i64 0]).drop (0 + i * 2 + (eEvt y).length)).drop (0 + (i + 1) * 2 + ((xs.drop i).flatMap eEvt).length))) el_27 sz_88 rfl rfl (by omega) (fun _ hs => Ro.mid (X := (xs.take i).flatMap eEvt) (R := []) (by rw [List.append_nil, ← fm_split]; exact hs.ownRo (.there (.there .here))) htl) (hdl) (fm_one eEvt_one _) (.there .here) (by simp only [List.length_append, List.length_take, List.length_drop, htl, hdl, hll, hrl]; omega) rfl ?_
      refine Dr.back (fun _ hs => hF6 .here hs) ?_
      refine Dr.tail 9 (by kernel_rfl) ?_
      refine Ops.sat ?_ (fun _ hs => hR7 .here hs)
      refine Ops.to rfl ?_
      refine Cd.seq ?_
      refine Cd.region ?_
      refine Ops.q (q_mv rfl) ?_
      refine Ops.q (q_asg rfl) ?_
      refine Ops.to rfl ?_
      refine Cd.rt (fn := Try.f58) [.slice (some ⟨nb, 0, none⟩) (xs.length + 1) nc] (by with_reducible repeat (first | exact rq_here | apply rq_then | apply rq_block)) rfl ⟨rfl, trivial⟩ ?_
      intro w' hs'
      refine ⟨(some ⟨nb, 0, none⟩, nc), by rw [insI_len hi]; rfl, ?_⟩
      rw [insI_len hi, insI_fm]
      have h9 := (((hs'.pull .here).pull (.there .here)).drop.pull (.there .here)).drop
      rw [grow3 (by rw [htl]; omega) (by rw [hll]; omega) (by rw [hrl, hll, hdl]; omega)] at h9
      exact h9
    · refine Ops.q (q_cmp rfl rfl (c_ngt (by omega))) ?_
      refine Ops.to rfl ?_
      refine Cd.cond_f rfl ?_
      refine Cd.skipTo rfl ?_
      refine Cd.seq ?_
      refine Cd.region ?_
      refine Ops.q (q_mv rfl) ?_
      refine Ops.q (q_mv rfl) ?_
      refine Ops.q (q_mv rfl) ?_
      refine Ops.q (q_ar rfl rfl (a_inc (by omega))) ?_
      refine Ops.q (q_cutHP (k := (xs.length + 1)) el_27 sz_88 rfl rfl (by omega)) ?_
      refine Ops.q (q_asg rfl) ?_
      refine Ops.to rfl ?_
      refine Cd.seq ?_
      refine Cd.seq ?_
      refine Cd.region ?_
      refine Ops.ext (k := 1) .here (by omega) ?_
      intro zs hzs
      rw [fm_split eEvt xs i]
      refine Ops.q (q_mv rfl) ?_
      refine Ops.q (q_mv rfl) ?_
      refine Ops.q (q_mv rfl) ?_
      refine Ops.q (q_mv rfl) ?_
      refine Ops.q (q_ar (v := ((i + 1 : Nat) : Int)) rfl rfl (a_inc (by omega))) ?_
      refine Ops.q (q_cutP (k := i + 1) el_27 sz_88 rfl rfl (by omega) (by omega)) ?_
      refine Ops.xt rfl (fun w hs => ovl_c hs (.there .here) .here (by omega) _ _) ?_
      refine Ops.q (q_not rfl) ?_
      refine Ops.to rfl ?_
      refine Cd.cond_t rfl ?_
      refine Cd.seq ?_
      refine Cd.draw rfl (by kernel_rfl) .nil ?_
      intro F8 St9 hP10 hF11 hR12
      refine Dr.q (i := 0) hP10 rfl (by kernel_rfl) (q_mv rfl) ?_
      refine Dr.q (i := 1) hP10 rfl (by kernel_rfl) (q_mv rfl) ?_
      refine Dr.q (i := 2) hP10 rfl (by kernel_rfl) (q_mv rfl) ?_
      refine Dr.q (i := 3) hP10 rfl (by kernel_rfl) (q_ar (v := ((i + 1 : Nat) : Int)) rfl rfl (a_inc (by omega))) ?_
      refine Dr.q (i := 4) hP10 rfl (by kernel_rfl) (q_cutP (k := i + 1) el_27 sz_88 rfl rfl (by omega) (by omega)) ?_
      refine Dr.q (i := 5) hP10 rfl (by kernel_rfl) (q_mv rfl) ?_
      refine Dr.q (i := 6) hP10 rfl (by kernel_rfl) (q_mv rfl) ?_
      refine Dr.q (i := 7) hP10 rfl (by kernel_rfl) (q_cutP (k := i) el_27 sz_88 rfl rfl (by omega) (by omega)) ?_
      refine Dr.e (i := 8) rfl (by kernel_rfl) ?_
      refine Ops.cpy (k := xs.length - i) (news := ((xs.drop i).flatMap eEvt)) (cs' := (((xs.take i).flatMap eEvt ++ (xs.drop i).flatMap eEvt ++ zs).take (0 + (i + 1) * 2) ++ ((xs.drop i).flatMap eEvt) ++ ((xs.take i).flatMap eEvt ++ (xs.drop i).flatMap eEvt ++ zs).drop (0 + (i + 1) * 2 + ((xs.drop i).flatMap eEvt).length))) el_27 sz_88 rfl rfl (by omega) (fun _ hs => Ro.mid (X := (xs.take i).flatMap eEvt) (R := zs) (hs.ownRo (.there .here)) htl) (hdl) (fm_one eEvt_one _) (.there .here) (by simp only [List.length_append, List.length_take, List.length_drop, htl, hdl, hll, hzs]; omega) rfl ?_
      refine Dr.back (fun _ hs => hF11 .here hs) ?_
      refine Dr.tail 9 (by kernel_rfl) ?_
      refine Ops.sat ?_ (fun _ hs => hR12 .here hs)
      refine Ops.to rfl ?_
      refine Cd.seq ?_
      refine Cd.region ?_
      refine Ops.q (q_mv rfl) ?_
      refine Ops.q (q_mv rfl) ?_
      refine Ops.q (q_cutP (k := i) el_27 sz_88 rfl rfl (by omega) (by omega)) ?_
      refine Ops.q (q_mv rfl) ?_
      refine Ops.cpy (k := 1) (news := (eEvt y)) (cs' := ((((xs.take i).flatMap eEvt ++ (xs.drop i).flatMap eEvt ++ zs).take (0 + (i + 1) * 2) ++ ((xs.drop i).flatMap eEvt) ++ ((xs.take i).flatMap eEvt ++ (xs.drop i).flatMap eEvt ++ zs).drop (0 + (i + 1) * 2 + ((xs.drop i).flatMap eEvt).length)).take (0 + i * 2) ++ (eEvt y) ++ (((xs.take i).flatMap eEvt ++ (xs.drop i).flatMap eEvt ++ zs).take (0 + (i + 1) * 2) ++ ((xs.drop i).flatMap eEvt) ++ ((xs.take i).flatMap eEvt ++ (xs.drop i).flatMap eEvt ++ zs).drop (0 + (i + 1) * 2 + ((xs.drop i).flatMap eEvt).length)).drop (0 + i * 2 + (eEvt y).length))) el_27 sz_88 rfl rfl (by omega) (fun _ hs => hs.ownRo (.there .here)) (rfl) (one rfl) .here (by simp only [List.length_append, List.length_take, List.length_drop, htl, hdl, hll, hzs]; omega) rfl ?_
      refine Ops.to rfl ?_
      refine Cd.seq ?_
      refine Cd.region ?_
      refine Ops.q (q_mv rfl) ?_
      refine Ops.q (q_asg rfl) ?_
      refine Ops.to rfl ?_
      refine Cd.rt (fn := Try.f58) [.slice (some ⟨rb, 0, none⟩) (xs.length + 1) cap] (by with_reducible repeat (first | exact rq_here | apply rq_then | apply rq_block)) rfl ⟨rfl, trivial⟩ ?_
      intro w' hs'
      refine ⟨((some ⟨rb, 0, none⟩), cap), by rw [insI_len hi]; rfl, ?_⟩
      rw [insI_len hi, insI_fm]
      have h9 := ((hs'.pull .here).pull (.there .here)).drop
      rw [room3 (by rw [htl]; omega) (by rw [hll]; omega) (by rw [hzs, hll])] at h9
      exact h9
end Go.Proofs.Ytilcdghliigngaa
namespace Go.Proofs.Ytilcdghliigngaa
open Go.RowKit Go.Proofs.YtilcdghliigngaaGl Go.Proofs.YtilcdghliigngaaPm
set_option linter.unusedVariables false
set_option linter.unusedSimpArgs false
def symE (n : Nat) (x : Int) : Int := if wi x 0 ((n : Int) - 1) then 0 else 4
def evW (ws : List Int) (k : Nat) : Evt := ⟨3 * (k : Int), ws.getD k 0⟩
def evsW (ws : List Int) (k : Nat) : List Evt := (List.range k).map (evW ws)
def wordP (nx : List (List Int)) (st : Int) (al : Nat) (ws : List Int) : Except Int (List Evt) :=
  if autoE nx st al ≠ 0 then .error (autoE nx st al)
  else if 3000 < ws.length then .error 8
  else if firstE (symE (nx.headD []).length) ws ≠ 0 then .error 4
  else .ok (insI (evsW ws ws.length) (min 1 ws.length) ⟨0, ((nx.headD []).length : Int)⟩)
def RetE (r : Except Int (List Evt)) (w : World) (e : Ending) (w' : World) : Prop :=
  match r with
  | .ok xs => ∃ p : Option Addr × Nat, e = .returned (.tuple #[.slice p.1 xs.length p.2, .int .i64 0]) ∧ Sat w w' [row p.1 p.2 88 2 xs.length (xs.flatMap eEvt)]
  | .error c => e = .returned (.tuple #[.slice none 0 0, .int .i64 c]) ∧ Sat w w' []
theorem evsW_step {ws : List Int} {k : Nat} {x : Int} (h : ws[k]? = some x) : evsW ws (k + 1) = evsW ws k ++ [⟨3 * (k : Int), x⟩] := by
  unfold evsW
  rw [rg_app]
  simp only [evW, getD_at h]
theorem evsW_len (ws : List Int) (k : Nat) : (evsW ws k).length = k := rg_len _ _
theorem symE_4 {n : Nat} {x : Int} (h : ¬ wi x 0 ((n : Int) - 1)) : symE n x = 4 := by unfold symE; rw [if_neg h]
theorem symE_0 {n : Nat} {x : Int} (h : wi x 0 ((n : Int) - 1)) : symE n x = 0 := by unfold symE; rw [if_pos h]
theorem insert_n (a : Option Addr) (cap vb i n : Nat) (xs : List Evt) (y : Evt) (hn : xs.length = n) (w0 w : World) (F : List Atom) (hi : i ≤ n) (hl : n ≤ 1000000) (hs : Sat w0 w (row a cap 88 2 n (xs.flatMap eEvt) :: row (some ⟨vb, 0, none⟩) 1 88 2 1 (eEvt y) :: F)) :
    Calls Try.prog 58 [.slice a n cap, .int .i64 (i : Int), .slice (some ⟨vb, 0, none⟩) 1 1].toArray w fun e w' => ∃ p : Option Addr × Nat, e = .returned (.slice p.1 (insI xs i y).length p.2) ∧ Sat w0 w' (row p.1 p.2 88 2 (insI xs i y).length ((insI xs i y).flatMap eEvt) :: F) := by
  subst hn; exact insert_c a cap vb i xs y w0 w F hi hl hs
theorem word_c (na : Option Addr) (nc : Nat) (ls : List NL) (st : Int) (aa : Option Addr) (al ac : Nat) (wa : Option Addr) (wc : Nat) (ws : List Int) (w : World) (hL : RoLL w na ls) (hW : RoL w wa eInt ws) : Calls Try.prog 18 [.agg [.slice na ls.length nc, .int .i64 st, .slice aa al ac].toArray, .slice wa ws.length wc].toArray w (RetE (wordP (ls.map (·.2)) st al ws) w) := by
  refine fstart Try.func18 rfl rfl (Sat.nil w) ?_
  refine Cd.seq ?_
  refine Cd.region ?_
  refine Ops.box [.slice na ls.length nc, .int .i64 st, .slice aa al ac] rfl rfl ?_
  intro b1
  refine Ops.q (q_asg rfl) ?_
  refine Ops.q (q_asg rfl) ?_
  refine Ops.to rfl ?_
  refine Cd.seq ?_
  refine Cd.seq ?_
  refine Cd.region ?_
  refine Ops.q (q_ldBN [.slice na ls.length nc, .int .i64 st, .slice aa al ac] isA_36 sz_36 rfl .here rfl) ?_
  refine Ops.cp en_47 rfl (fun w hs => acheck_c _ _ ls st _ al _ w (hL.later hs.below)) ?_
  refine Ops.q (q_asg rfl) ?_
  refine Ops.to rfl ?_
  refine Cd.seq ?_
  refine Cd.region ?_
  refine Ops.q (q_mv rfl) ?_
  by_cases h2 : autoE (ls.map (fun l : NL => l.2)) st al = 0
  · refine Ops.q (q_cmp rfl rfl (c_nne h2)) ?_
    have hae := h2
    obtain ⟨hw1, hal, hw3, hrow, hin⟩ := autoE_ok h2
    rw [List.length_map] at hw1 hal
    obtain ⟨l0, hl0⟩ : ∃ x, ls[0]? = some x := ⟨_, List.getElem?_eq_getElem (by unfold wi at hw1; omega)⟩
    have hhd : (ls.map (·.2)).headD [] = l0.2 := by cases ls with | nil => simp at hl0 | cons x xs => simp at hl0; subst hl0; rfl
    rw [hhd] at hw3 hrow
    have hs1 : 1 ≤ ls.length ∧ ls.length ≤ 32 := by unfold wi at hw1; omega
    have hk1 : 1 ≤ l0.2.length ∧ l0.2.length ≤ 16 := by unfold wi at hw3; omega
    obtain ⟨nb, no, rfl⟩ := RoL.pos hL.1 eNL_len hl0
    refine Ops.to rfl ?_
    refine Cd.cond_f rfl ?_
    refine Cd.skipTo rfl ?_
    refine Cd.seq ?_
    refine Cd.region ?_
    refine Ops.q (q_fa fo_36_0 rfl) ?_
    refine Ops.q (q_ldB isA_22 rfl .here rfl) ?_
    refine Ops.q (q_ix (k := 0) esz_22 rfl rfl (by omega)) ?_
    refine Ops.q (q_ldR isA_26 rfl (hL.1.at0 eNL_len hl0 rfl)) ?_
    refine Ops.q (q_len esz_26 rfl) ?_
    refine Ops.q (q_asg rfl) ?_
    refine Ops.to rfl ?_
    refine Cd.seq ?_
    refine Cd.seq ?_
    refine Cd.region ?_
    refine Ops.q (q_mv rfl) ?_
    refine Ops.q (q_len esz_26 rfl) ?_
    by_cases h3 : 3000 < (ws.length : Int)
    · refine Ops.q (q_cmp rfl rfl (c_gt h3)) ?_
      refine Ops.to rfl ?_
      refine Cd.cond_t rfl ?_
      refine Cd.seq ?_
      refine Cd.region ?_
      refine Ops.q (q_asg rfl) ?_
      refine Ops.q (q_asg rfl) ?_
      refine Ops.to rfl ?_
      refine Cd.rt (fn := Try.f18) [.slice none 0 0, .int .i64 8] (by with_reducible repeat (first | exact rq_here | apply rq_then | apply rq_block)) rfl ⟨rfl, rfl, trivial⟩ ?_
      intro w' hs'
      have hM : wordP (ls.map (·.2)) st al ws = (if 3000 < ws.length then .error 8 else if firstE (symE l0.2.length) ws ≠ 0 then .error 4 else .ok (insI (evsW ws ws.length) (min 1 ws.length) ⟨0, (l0.2.length : Int)⟩)) := by unfold wordP; rw [if_neg (by simpa using hae), hhd]
      rw [hM, if_pos (by omega)]
      exact ⟨rfl, hs'.none⟩
    · refine Ops.q (q_cmp rfl rfl (c_ngt (by omega))) ?_
      refine Ops.to rfl ?_
      refine Cd.cond_f rfl ?_
      refine Cd.skipTo rfl ?_
      refine Cd.seq ?_
      refine Cd.region ?_
      refine Ops.q (q_asg rfl) ?_
      refine Ops.to rfl ?_
      refine Cd.seq ?_
      refine Cd.seq ?_
      refine Cd.region ?_
      refine Ops.q (q_mv rfl) ?_
      refine Ops.q (q_len esz_26 rfl) ?_
      refine Ops.q (q_mv rfl) ?_
      refine Ops.to rfl ?_
      refine Cd.block ?_
      refine Cd.lp (σ := Nat × Option Addr × Nat) (fun s => s.1 ≤ ws.length ∧ firstE (symE l0.2.length) (ws.drop s.1) = firstE (symE l0.2.length) ws) (fun s => [(2, .pointer (some ⟨b1, 0, none⟩)), (7, .int .i64 (l0.2.length : Int)), (8, .slice s.2.1 s.1 s.2.2), (24, .slice wa ws.length wc), (25, .int .i64 (ws.length : Int)), (26, .int .i64 (s.1 : Int))]) (fun s => [blk b1 36 [.slice (some ⟨nb, no, none⟩) ls.length nc, .int .i64 st, .slice aa al ac], row s.2.1 s.2.2 88 2 s.1 ((evsW ws s.1).flatMap eEvt)]) (fun s => ws.length - s.1) (0, none, 0) ⟨Nat.zero_le _, rfl⟩ ⟨rfl, rfl, rfl, rfl, rfl, rfl, trivial⟩ (fun _ hs => by have h1 := ((hs.pull .here)).nilRow 88 2; exact h1.pull (.there .here)) ?_
      rintro ⟨k, pa, pc⟩ hI
      dsimp only at hI
      change Cd _ _ _ _ _ _ _ [(2, .pointer (some ⟨b1, 0, none⟩)), (7, .int .i64 (l0.2.length : Int)), (8, .slice pa k pc), (24, .slice wa ws.length wc), (25, .int .i64 (ws.length : Int)), (26, .int .i64 (k : Int))] ([blk b1 36 [.slice (some ⟨nb, no, none⟩) ls.length nc, .int .i64 st, .slice aa al ac], row pa pc 88 2 k ((evsW ws k).flatMap eEvt)])
      have hI1 := hI.1
      refine Cd.seq ?_
      refine Cd.region ?_
      by_cases hk : (k : Int) < (ws.length : Int)
      · refine Ops.q (q_cmp rfl rfl (c_lt hk)) ?_
        obtain ⟨x4, hx5⟩ : ∃ x, ws[k]? = some x := ⟨_, List.getElem?_eq_getElem (by omega)⟩
        obtain ⟨ab6, ao7, rfl⟩ := RoL.pos hW eInt_len hx5
        refine Ops.to rfl ?_
        refine Cd.seq ?_
        refine Cd.cond_t rfl ?_
        refine Cd.skipTo rfl ?_
        refine Cd.seq ?_
        refine Cd.block ?_
        refine Cd.seq ?_
        refine Cd.region ?_
        refine Ops.q (q_mv rfl) ?_
        refine Ops.q (q_ix (k := k) esz_26 rfl rfl (by omega)) ?_
        refine Ops.q (q_ldR isA_3 rfl (hW.at0 eInt_len hx5 rfl)) ?_
        refine Ops.q (q_asg rfl) ?_
        refine Ops.q (q_asg rfl) ?_
        refine Ops.to rfl ?_
        refine Cd.seq ?_
        refine Cd.seq ?_
        refine Cd.region ?_
        refine Ops.q (q_mv rfl) ?_
        refine Ops.q (q_mv rfl) ?_
        refine Ops.q (q_ar (v := (l0.2.length : Int) - 1) rfl rfl (a_sub (by omega))) ?_
        by_cases h8 : wi x4 0 ((l0.2.length : Int) - 1)
        · refine Ops.cp en_57 rfl (fun w hs => dT (in_c _ _ _ w) h8) ?_
          refine Ops.q (q_not rfl) ?_
          refine Ops.to rfl ?_
          refine Cd.cond_f rfl ?_
          refine Cd.skipTo rfl ?_
          refine Cd.region ?_
          refine Ops.q (q_mv rfl) ?_
          refine Ops.q (q_mv rfl) ?_
          refine Ops.q (q_ar rfl rfl (a_mul (by omega))) ?_
          refine Ops.q (q_mv rfl) ?_
          refine Ops.q (q_bld [.int .i64 (3 * (k : Int)), .int .i64 x4] pls_88 zc_88 rfl rfl) ?_
          refine Ops.lit [.int .i64 (3 * (k : Int)), .int .i64 x4] el_27 zsb_88 rfl rfl ⟨by decide, by decide⟩ rfl ?_
          intro b9
          refine Ops.app (news := [.int .i64 (3 * (k : Int)), .int .i64 x4]) el_27 zsb_88 (by decide) rfl rfl (fun _ hs => hs.ownRo .here) (fun _ hs => (hs.pull .here).drop) (fun _ _ => (.there .here)) rfl (one rfl) (by omega) (by omega) ?_
          intro a10 c11
          refine Ops.q (q_asg rfl) ?_
          refine Ops.to rfl ?_
          refine Cd.region ?_
          refine Ops.q (q_ar rfl rfl (a_inc (by omega))) ?_
          refine Ops.q (q_mv rfl) ?_
          refine Ops.rnd ((k + 1, a10, c11)) rfl (by dsimp only; exact (⟨by omega, by rw [← hI.2]; exact (firstE_step hx5 (symE_0 h8)).symm⟩)) (by dsimp only; omega) ⟨rfl, rfl, rfl, rfl, rfl, rfl, trivial⟩ (fun _ hs => by have h1 := ((hs.pull (.there .here)).pull (.there .here)); (try dsimp only); rw [evsW_step hx5, fm_app]; exact h1) 
        · refine Ops.cp en_57 rfl (fun w hs => dF (in_c _ _ _ w) h8) ?_
          refine Ops.q (q_not rfl) ?_
          refine Ops.to rfl ?_
          refine Cd.cond_t rfl ?_
          refine Cd.seq ?_
          refine Cd.region ?_
          refine Ops.q (q_asg rfl) ?_
          refine Ops.q (q_asg rfl) ?_
          refine Ops.to rfl ?_
          refine Cd.rt (fn := Try.f18) [.slice none 0 0, .int .i64 4] (by with_reducible repeat (first | exact rq_here | apply rq_then | apply rq_block)) rfl ⟨rfl, rfl, trivial⟩ ?_
          intro w' hs'
          have hM : wordP (ls.map (·.2)) st al ws = (if 3000 < ws.length then .error 8 else if firstE (symE l0.2.length) ws ≠ 0 then .error 4 else .ok (insI (evsW ws ws.length) (min 1 ws.length) ⟨0, (l0.2.length : Int)⟩)) := by unfold wordP; rw [if_neg (by simpa using hae), hhd]
          have h9 : firstE (symE l0.2.length) ws = 4 := by rw [← hI.2, firstE_stop hx5 (by rw [symE_4 h8]; decide), symE_4 h8]
          rw [hM, if_neg (by omega), h9, if_pos (by decide)]
          exact ⟨rfl, hs'.none⟩
      · refine Ops.q (q_cmp rfl rfl (c_nlt (by omega))) ?_
        refine Ops.to rfl ?_
        refine Cd.seq ?_
        refine Cd.cond_f rfl ?_
        refine Cd.exitTo rfl ?_
        refine Cd.seq ?_
        refine Cd.region ?_
        refine Ops.q (q_mv rfl) ?_
        refine Ops.q (q_mv rfl) ?_
        refine Ops.q (q_len esz_27 rfl) ?_
        refine Ops.q (q_min rfl rfl) ?_
        rw [show min (1 : Int) (k : Int) = ((min 1 k : Nat) : Int) by omega]
        refine Ops.q (q_mv rfl) ?_
        refine Ops.q (q_bld [.int .i64 0, .int .i64 (l0.2.length : Int)] pls_88 zc_88 rfl rfl) ?_
        refine Ops.lit [.int .i64 0, .int .i64 (l0.2.length : Int)] el_27 zsb_88 rfl rfl ⟨by decide, by decide⟩ rfl ?_
        intro b12
        refine Ops.cm (α := Option Addr × Nat) (v := fun p => .slice p.1 (insI (evsW ws k) (min 1 k) (⟨0, (l0.2.length : Int)⟩ : Evt)).length p.2) (A' := fun p => row p.1 p.2 88 2 (insI (evsW ws k) (min 1 k) (⟨0, (l0.2.length : Int)⟩ : Evt)).length ((insI (evsW ws k) (min 1 k) (⟨0, (l0.2.length : Int)⟩ : Evt)).flatMap eEvt) :: [blk b1 36 [.slice (some ⟨nb, no, none⟩) ls.length nc, .int .i64 st, .slice aa al ac]]) en_58 rfl (fun w hs => insert_n pa pc b12 (min 1 k) k (evsW ws k) (⟨0, (l0.2.length : Int)⟩ : Evt) (evsW_len _ _) _ w _ (by omega) (by omega) ((((hs.pull (.there .here)).pull (.there .here)).pull (.there (.there .here))))) ?_
        rintro ⟨ia, ic⟩
        refine Ops.q (q_asg rfl) ?_
        refine Ops.q (q_asg rfl) ?_
        refine Ops.to rfl ?_
        refine Cd.rt (fn := Try.f18) [.slice ia ((insI (evsW ws k) (min 1 k) (⟨0, (l0.2.length : Int)⟩ : Evt)).length) ic, .int .i64 0] (by with_reducible repeat (first | exact rq_here | apply rq_then | apply rq_block)) rfl ⟨rfl, rfl, trivial⟩ ?_
        intro w' hs'
        have hM : wordP (ls.map (·.2)) st al ws = (if 3000 < ws.length then .error 8 else if firstE (symE l0.2.length) ws ≠ 0 then .error 4 else .ok (insI (evsW ws ws.length) (min 1 ws.length) ⟨0, (l0.2.length : Int)⟩)) := by unfold wordP; rw [if_neg (by simpa using hae), hhd]
        have h9 : firstE (symE l0.2.length) ws = 0 := by rw [← hI.2, firstE_end (by omega)]
        rw [hM, if_neg (by omega), h9, if_neg (by decide)]
        have hk : k = ws.length := by omega
        subst hk
        exact ⟨(ia, ic), rfl, hs'.only .here⟩
  · refine Ops.q (q_cmp rfl rfl (c_ne h2)) ?_
    refine Ops.to rfl ?_
    refine Cd.cond_t rfl ?_
    refine Cd.seq ?_
    refine Cd.region ?_
    refine Ops.q (q_mv rfl) ?_
    refine Ops.q (q_asg rfl) ?_
    refine Ops.q (q_asg rfl) ?_
    refine Ops.to rfl ?_
    refine Cd.rt (fn := Try.f18) [.slice none 0 0, .int .i64 (autoE (ls.map (fun l : NL => l.2)) st al)] (by with_reducible repeat (first | exact rq_here | apply rq_then | apply rq_block)) rfl ⟨rfl, rfl, trivial⟩ ?_
    intro w' hs'
    rw [show wordP (ls.map (·.2)) st al ws = .error (autoE (ls.map (·.2)) st al) by unfold wordP; rw [if_pos h2]]
    exact ⟨rfl, hs'.none⟩
end Go.Proofs.Ytilcdghliigngaa
namespace Go.Proofs.Ytilcdghliigngaa
open Go.RowKit Go.Proofs.YtilcdghliigngaaGl Go.Proofs.YtilcdghliigngaaPm
set_option linter.unusedVariables false
set_option linter.unusedSimpArgs false
end Go.Proofs.Ytilcdghliigngaa
namespace Go.Proofs.Ytilcdghliigngaa
open Go.RowKit Go.Proofs.YtilcdghliigngaaGl Go.Proofs.YtilcdghliigngaaPm
set_option linter.unusedVariables false
set_option linter.unusedSimpArgs false
def hN (s k j : Nat) : Int := if s ≤ j ∧ j < s + s * k then 2 else 1
end Go.Proofs.Ytilcdghliigngaa
namespace Go.Proofs.Ytilcdghliigngaa
open Go.RowKit Go.Proofs.YtilcdghliigngaaGl Go.Proofs.YtilcdghliigngaaPm
set_option linter.unusedVariables false
set_option linter.unusedSimpArgs false
theorem mpT_166 : mpT Try.prog 166 = some (3, 4) := by kernel_rfl
theorem zero_4 : ∀ w, (zeroValue 4).run Try.prog w = .ok (.bool false) w := fun w => by kernel_rfl
def setE (n : Int) (xs : List Int) : Int := if ∀ x ∈ xs, wi x 0 (n - 1) then (if xs.Nodup then 0 else 5) else 4
def mtk (xs : List Int) : List (Int × Value) := xs.map fun x => (x, .bool true)
theorem findI_mtk (k : Int) : ∀ (xs : List Int) (i : Nat), (k ∈ xs → ∃ j, findI k (mtk xs) i = some (j, .bool true)) ∧ (¬ k ∈ xs → findI k (mtk xs) i = none)
  | [], i => ⟨fun h => by simp at h, fun _ => rfl⟩
  | x :: xs, i => by
    have ih := findI_mtk k xs (i + 1)
    by_cases h : k = x
    · subst h
      exact ⟨fun _ => ⟨i, by simp [mtk, findI]⟩, fun h => by simp at h⟩
    · have e : findI k (mtk (x :: xs)) i = findI k (mtk xs) (i + 1) := by simp [mtk, findI, h]
      rw [e]
      exact ⟨fun hm => ih.1 (by simpa [h] using hm), fun hm => ih.2 (fun h2 => hm (.tail _ h2))⟩
theorem looki_in {k : Int} {xs : List Int} (h : k ∈ xs) : looki (mtk xs) k = some (.bool true) := by
  obtain ⟨j, hj⟩ := (findI_mtk k xs 0).1 h
  simp [looki, hj]
theorem looki_out {k : Int} {xs : List Int} (h : ¬ k ∈ xs) : looki (mtk xs) k = none := by
  simp [looki, (findI_mtk k xs 0).2 h]
theorem updI_out {k : Int} {xs : List Int} (h : ¬ k ∈ xs) : updI (mtk xs) k (.bool true) = mtk (xs ++ [k]) := by
  unfold updI
  rw [(findI_mtk k xs 0).2 h]
  simp [mtk]
theorem nodup_step {xs : List Int} {k : Nat} {x : Int} (hx : xs[k]? = some x) (h : (xs.take k).Nodup) (hn : ¬ x ∈ xs.take k) : (xs.take (k + 1)).Nodup := by
  rw [List.take_add_one, hx]
  refine List.nodup_append.2 ⟨h, by simp, ?_⟩
  intro a ha b hb e
  have hb' := List.mem_singleton.1 hb
  subst hb'; subst e; exact hn ha
theorem nodup_stop {xs : List Int} {k : Nat} {x : Int} (hx : xs[k]? = some x) (hn : x ∈ xs.take k) : ¬ xs.Nodup := by
  intro h
  have h2 : (xs.take (k + 1)).Nodup := h.sublist (List.take_sublist _ _)
  rw [List.take_add_one, hx] at h2
  exact (List.nodup_append.1 h2).2.2 x hn x (by simp) rfl
theorem diff1_c (tb bl : Nat) (x n : Int) (w0 w : World) (F : List Atom) (hn : -1000000 ≤ n ∧ n ≤ 1000000) (hs : Sat w0 w (blk tb 131 [.func (.func 92) #[] #[.pointer (some ⟨bl, 0, none⟩)]] :: blk bl 3 [.int .i64 n] :: F)) : Calls Try.prog 91 [.int .i64 x, .pointer (some ⟨tb, 0, none⟩)].toArray w fun e w' => e = .returned (.bool (decide (¬ wi x 0 (n - 1)))) ∧ Sat w0 w' (blk tb 131 [.func (.func 92) #[] #[.pointer (some ⟨bl, 0, none⟩)]] :: blk bl 3 [.int .i64 n] :: F) := by
  refine fstart Try.func91 rfl rfl hs ?_
  refine Cd.seq ?_
  refine Cd.region ?_
  refine Ops.q (q_asg rfl) ?_
  refine Ops.to rfl ?_
  refine Cd.seq ?_
  refine Cd.region ?_
  refine Ops.q (q_ldB isA_131 rfl .here rfl) ?_
  refine Ops.q (q_mv rfl) ?_
  by_cases h1 : wi x 0 (n - 1)
  · refine Ops.cv (α := Unit) (k := 92) (first := []) (caps := [.pointer (some ⟨bl, 0, none⟩)]) (vs := [.int .i64 x]) (v := fun _ => .bool true) (A' := fun _ => blk bl 3 [.int .i64 n] :: blk tb 131 [.func (.func 92) #[] #[.pointer (some ⟨bl, 0, none⟩)]] :: F) en_92 rfl rfl (fun w hs => bT (below1_c bl x n _ w _ (by omega) (((hs.pull .here).pull (.there .here)))) h1) ?_
    intro _
    refine Ops.q (q_not rfl) ?_
    refine Ops.q (q_asg rfl) ?_
    refine Ops.to rfl ?_
    refine Cd.rt (fn := Try.f91) [.bool false] (by with_reducible repeat (first | exact rq_here | apply rq_then | apply rq_block)) rfl ⟨rfl, trivial⟩ ?_
    intro w' hs
    exact ⟨ebool (by simp [h1]), ((hs.pull .here).pull (.there .here))⟩
  · refine Ops.cv (α := Unit) (k := 92) (first := []) (caps := [.pointer (some ⟨bl, 0, none⟩)]) (vs := [.int .i64 x]) (v := fun _ => .bool false) (A' := fun _ => blk bl 3 [.int .i64 n] :: blk tb 131 [.func (.func 92) #[] #[.pointer (some ⟨bl, 0, none⟩)]] :: F) en_92 rfl rfl (fun w hs => bF (below1_c bl x n _ w _ (by omega) (((hs.pull .here).pull (.there .here)))) h1) ?_
    intro _
    refine Ops.q (q_not rfl) ?_
    refine Ops.q (q_asg rfl) ?_
    refine Ops.to rfl ?_
    refine Cd.rt (fn := Try.f91) [.bool true] (by with_reducible repeat (first | exact rq_here | apply rq_then | apply rq_block)) rfl ⟨rfl, trivial⟩ ?_
    intro w' hs
    exact ⟨ebool (by simp [h1]), ((hs.pull .here).pull (.there .here))⟩
theorem indexI_c (tb bl : Nat) (xa : Option Addr) (xc : Nat) (xs : List Int) (n : Int) (w0 w : World) (F : List Atom) (hX : RoL w0 xa eInt xs) (hl : xs.length ≤ 1000000) (hn : -1000000 ≤ n ∧ n ≤ 1000000) (hs : Sat w0 w (blk tb 131 [.func (.func 92) #[] #[.pointer (some ⟨bl, 0, none⟩)]] :: blk bl 3 [.int .i64 n] :: F)) : Calls Try.prog 111 [.slice xa xs.length xc, .func (.func 91) #[] #[.pointer (some ⟨tb, 0, none⟩)]].toArray w fun e w' => ∃ i : Int, e = .returned (.int .i64 i) ∧ (0 ≤ i ↔ ∃ y ∈ xs, ¬ wi y 0 (n - 1)) ∧ Sat w0 w' (blk tb 131 [.func (.func 92) #[] #[.pointer (some ⟨bl, 0, none⟩)]] :: blk bl 3 [.int .i64 n] :: F) := by
  refine fstart Try.func111 rfl rfl hs ?_
  refine Cd.seq ?_
  refine Cd.region ?_
  refine Ops.q (q_asg rfl) ?_
  refine Ops.to rfl ?_
  refine Cd.seq ?_
  refine Cd.seq ?_
  refine Cd.region ?_
  refine Ops.q (q_mv rfl) ?_
  refine Ops.q (q_len esz_26 rfl) ?_
  refine Ops.q (q_mv rfl) ?_
  refine Ops.to rfl ?_
  refine Cd.block ?_
  refine Cd.lp (σ := Nat) (fun k => k ≤ xs.length ∧ ∀ y ∈ xs.take k, wi y 0 (n - 1)) (fun k => [(0, .slice xa xs.length xc), (1, .func (.func 91) #[] #[.pointer (some ⟨tb, 0, none⟩)]), (7, .int .i64 (xs.length : Int)), (8, .int .i64 (k : Int))]) (fun k => blk tb 131 [.func (.func 92) #[] #[.pointer (some ⟨bl, 0, none⟩)]] :: blk bl 3 [.int .i64 n] :: F) (fun k => xs.length - k) 0 ⟨Nat.zero_le _, by simp⟩ ⟨rfl, rfl, rfl, rfl, trivial⟩ (fun _ hs => hs) ?_
  intro k hI
  have hI1 := hI.1
  refine Cd.seq ?_
  refine Cd.region ?_
  by_cases hk : (k : Int) < (xs.length : Int)
  · refine Ops.q (q_cmp rfl rfl (c_lt hk)) ?_
    obtain ⟨x1, hx2⟩ : ∃ x, xs[k]? = some x := ⟨_, List.getElem?_eq_getElem (by omega)⟩
    obtain ⟨ab3, ao4, rfl⟩ := RoL.pos hX eInt_len hx2
    refine Ops.to rfl ?_
    refine Cd.seq ?_
    refine Cd.cond_t rfl ?_
    refine Cd.skipTo rfl ?_
    refine Cd.seq ?_
    refine Cd.block ?_
    refine Cd.seq ?_
    refine Cd.region ?_
    refine Ops.q (q_mv rfl) ?_
    refine Ops.q (q_asg rfl) ?_
    refine Ops.to rfl ?_
    refine Cd.seq ?_
    refine Cd.region ?_
    refine Ops.q (q_mv rfl) ?_
    refine Ops.q (q_mv rfl) ?_
    refine Ops.q (q_mv rfl) ?_
    refine Ops.q (q_ix (k := k) esz_26 rfl rfl (by omega)) ?_
    refine Ops.q (q_ldR isA_3 rfl (hX.at0 eInt_len hx2 rfl)) ?_
    by_cases hc5 : ¬ wi x1 0 (n - 1)
    · refine Ops.cv (α := Unit) (k := 91) (first := []) (caps := [.pointer (some ⟨tb, 0, none⟩)]) (vs := [.int .i64 x1]) (v := fun _ => .bool true) (A' := fun _ => blk tb 131 [.func (.func 92) #[] #[.pointer (some ⟨bl, 0, none⟩)]] :: blk bl 3 [.int .i64 n] :: F) en_91 rfl rfl (fun w hs => bT (diff1_c tb bl x1 n _ w _ hn hs) hc5) ?_
      intro _
      refine Ops.to rfl ?_
      refine Cd.cond_t rfl ?_
      refine Cd.seq ?_
      refine Cd.region ?_
      refine Ops.q (q_mv rfl) ?_
      refine Ops.q (q_asg rfl) ?_
      refine Ops.to rfl ?_
      refine Cd.rt (fn := Try.f111) [.int .i64 (k : Int)] (by with_reducible repeat (first | exact rq_here | apply rq_then | apply rq_block)) rfl ⟨rfl, trivial⟩ ?_
      intro w' hs'
      exact ⟨(k : Int), rfl, ⟨fun _ => ⟨x1, List.mem_iff_getElem?.2 ⟨k, hx2⟩, hc5⟩, fun _ => by omega⟩, hs'⟩
    · refine Ops.cv (α := Unit) (k := 91) (first := []) (caps := [.pointer (some ⟨tb, 0, none⟩)]) (vs := [.int .i64 x1]) (v := fun _ => .bool false) (A' := fun _ => blk tb 131 [.func (.func 92) #[] #[.pointer (some ⟨bl, 0, none⟩)]] :: blk bl 3 [.int .i64 n] :: F) en_91 rfl rfl (fun w hs => bF (diff1_c tb bl x1 n _ w _ hn hs) hc5) ?_
      intro _
      refine Ops.to rfl ?_
      refine Cd.cond_f rfl ?_
      refine Cd.skipTo rfl ?_
      refine Cd.region ?_
      refine Ops.q (q_ar rfl rfl (a_inc (by omega))) ?_
      refine Ops.q (q_mv rfl) ?_
      refine Ops.rnd (k + 1) rfl (⟨by omega, by intro y hy; rw [List.take_add_one, hx2] at hy; rcases List.mem_append.1 hy with hy | hy; exact hI.2 y hy; obtain rfl := List.mem_singleton.1 hy; exact Decidable.of_not_not hc5⟩) (by omega) ⟨rfl, rfl, rfl, rfl, trivial⟩ (fun _ hs => hs) 
  · refine Ops.q (q_cmp rfl rfl (c_nlt (by omega))) ?_
    refine Ops.to rfl ?_
    refine Cd.seq ?_
    refine Cd.cond_f rfl ?_
    refine Cd.exitTo rfl ?_
    refine Cd.seq ?_
    refine Cd.region ?_
    refine Ops.q (q_asg rfl) ?_
    refine Ops.to rfl ?_
    refine Cd.rt (fn := Try.f111) [.int .i64 (-1)] (by with_reducible repeat (first | exact rq_here | apply rq_then | apply rq_block)) rfl ⟨rfl, trivial⟩ ?_
    intro w' hs'
    exact ⟨-1, rfl, ⟨fun h => by omega, fun ⟨y, hy, hne⟩ => by rw [List.take_of_length_le (by omega)] at hI; exact absurd (hI.2 y hy) hne⟩, hs'⟩
theorem containsI_c (tb bl : Nat) (xa : Option Addr) (xc : Nat) (xs : List Int) (n : Int) (w0 w : World) (F : List Atom) (hX : RoL w0 xa eInt xs) (hl : xs.length ≤ 1000000) (hn : -1000000 ≤ n ∧ n ≤ 1000000) (hs : Sat w0 w (blk tb 131 [.func (.func 92) #[] #[.pointer (some ⟨bl, 0, none⟩)]] :: blk bl 3 [.int .i64 n] :: F)) : Calls Try.prog 90 [.slice xa xs.length xc, .func (.func 91) #[] #[.pointer (some ⟨tb, 0, none⟩)]].toArray w fun e w' => e = .returned (.bool (decide (∃ y ∈ xs, ¬ wi y 0 (n - 1)))) ∧ Sat w0 w' (blk tb 131 [.func (.func 92) #[] #[.pointer (some ⟨bl, 0, none⟩)]] :: blk bl 3 [.int .i64 n] :: F) := by
  refine fstart Try.func90 rfl rfl hs ?_
  refine Cd.seq ?_
  refine Cd.region ?_
  refine Ops.q (q_asg rfl) ?_
  refine Ops.to rfl ?_
  refine Cd.seq ?_
  refine Cd.region ?_
  refine Ops.q (q_mv rfl) ?_
  refine Ops.q (q_mv rfl) ?_
  refine Ops.cm (α := {i : Int // 0 ≤ i ↔ ∃ y ∈ xs, ¬ wi y 0 (n - 1)}) (v := fun i => .int .i64 i.1) (A' := fun _ => blk tb 131 [.func (.func 92) #[] #[.pointer (some ⟨bl, 0, none⟩)]] :: blk bl 3 [.int .i64 n] :: F) en_111 rfl (fun w hs => (indexI_c tb bl _ _ xs n _ w _ hX hl hn hs).mono fun e w' h => by obtain ⟨i, h1, h2, h3⟩ := h; exact ⟨⟨i, h2⟩, h1, h3⟩) ?_
  intro i
  by_cases h1 : 0 ≤ i.1
  · refine Ops.q (q_cmp rfl rfl (c_ge h1)) ?_
    refine Ops.q (q_asg rfl) ?_
    refine Ops.to rfl ?_
    refine Cd.rt (fn := Try.f90) [.bool true] (by with_reducible repeat (first | exact rq_here | apply rq_then | apply rq_block)) rfl ⟨rfl, trivial⟩ ?_
    intro w' hs'
    exact ⟨ebool (by rw [← i.2]; simp; try omega), hs'⟩
  · refine Ops.q (q_cmp rfl rfl (c_nge (by omega))) ?_
    refine Ops.q (q_asg rfl) ?_
    refine Ops.to rfl ?_
    refine Cd.rt (fn := Try.f90) [.bool false] (by with_reducible repeat (first | exact rq_here | apply rq_then | apply rq_block)) rfl ⟨rfl, trivial⟩ ?_
    intro w' hs'
    exact ⟨ebool (by rw [← i.2]; simp; try omega), hs'⟩
theorem different_c (bl : Nat) (xa : Option Addr) (xc : Nat) (xs : List Int) (n : Int) (w0 w : World) (F : List Atom) (hX : RoL w0 xa eInt xs) (hl : xs.length ≤ 1000000) (hn : -1000000 ≤ n ∧ n ≤ 1000000) (hs : Sat w0 w (blk bl 3 [.int .i64 n] :: F)) : Calls Try.prog 64 [.slice xa xs.length xc, .func (.func 92) #[] #[.pointer (some ⟨bl, 0, none⟩)]].toArray w fun e w' => e = .returned (.int .i64 (setE n xs)) ∧ Sat w0 w' (blk bl 3 [.int .i64 n] :: F) := by
  refine fstart Try.func64 rfl rfl hs ?_
  refine Cd.seq ?_
  refine Cd.region ?_
  refine Ops.box [.func (.func 92) #[] #[.pointer (some ⟨bl, 0, none⟩)]] rfl rfl ?_
  intro b1
  refine Ops.q (q_asg rfl) ?_
  refine Ops.to rfl ?_
  refine Cd.seq ?_
  refine Cd.seq ?_
  refine Cd.region ?_
  refine Ops.q (q_mv rfl) ?_
  refine Ops.q (q_mkf rfl rfl) ?_
  by_cases hc2 : ∃ y ∈ xs, ¬ wi y 0 (n - 1)
  · refine Ops.cm (α := Unit) (v := fun _ => .bool true) (A' := fun _ => blk b1 131 [.func (.func 92) #[] #[.pointer (some ⟨bl, 0, none⟩)]] :: blk bl 3 [.int .i64 n] :: F) en_90 rfl (fun w hs => bT (containsI_c b1 bl _ _ xs n _ w _ hX hl hn (((hs.pull (.there .here)).pull (.there .here)))) hc2) ?_
    intro _
    refine Ops.to rfl ?_
    refine Cd.cond_t rfl ?_
    refine Cd.seq ?_
    refine Cd.region ?_
    refine Ops.q (q_asg rfl) ?_
    refine Ops.to rfl ?_
    refine Cd.rt (fn := Try.f64) [.int .i64 4] (by with_reducible repeat (first | exact rq_here | apply rq_then | apply rq_block)) rfl ⟨rfl, trivial⟩ ?_
    intro w' hs'
    rw [show setE n xs = 4 by unfold setE; rw [if_neg (fun h => by obtain ⟨y, hy, hne⟩ := hc2; exact hne (h y hy))]]
    exact ⟨rfl, ((hs'.pull (.there .here)).pull (.there .here)).drop⟩
  · refine Ops.cm (α := Unit) (v := fun _ => .bool false) (A' := fun _ => blk b1 131 [.func (.func 92) #[] #[.pointer (some ⟨bl, 0, none⟩)]] :: blk bl 3 [.int .i64 n] :: F) en_90 rfl (fun w hs => bF (containsI_c b1 bl _ _ xs n _ w _ hX hl hn (((hs.pull (.there .here)).pull (.there .here)))) hc2) ?_
    intro _
    refine Ops.to rfl ?_
    refine Cd.cond_f rfl ?_
    refine Cd.skipTo rfl ?_
    refine Cd.seq ?_
    refine Cd.region ?_
    refine Ops.mkm ?_
    intro b3
    refine Ops.q (q_asg rfl) ?_
    refine Ops.to rfl ?_
    refine Cd.seq ?_
    refine Cd.seq ?_
    refine Cd.region ?_
    refine Ops.q (q_mv rfl) ?_
    refine Ops.q (q_len esz_26 rfl) ?_
    refine Ops.q (q_mv rfl) ?_
    refine Ops.to rfl ?_
    refine Cd.block ?_
    refine Cd.lp (σ := Nat) (fun k => k ≤ xs.length ∧ (xs.take k).Nodup) (fun k => [(5, .map (some b3)), (12, .slice xa xs.length xc), (13, .int .i64 (xs.length : Int)), (14, .int .i64 (k : Int))]) (fun k => imap b3 (mtk (xs.take k)) :: blk bl 3 [.int .i64 n] :: F) (fun k => xs.length - k) 0 ⟨Nat.zero_le _, by simp⟩ ⟨rfl, rfl, rfl, rfl, trivial⟩ (fun _ hs => (((hs.pull (.there (.there .here))).pull (.there .here)).pull (.there (.there .here))).drop) ?_
    intro k hI
    have hI1 := hI.1
    refine Cd.seq ?_
    refine Cd.region ?_
    by_cases hk : (k : Int) < (xs.length : Int)
    · refine Ops.q (q_cmp rfl rfl (c_lt hk)) ?_
      obtain ⟨x4, hx5⟩ : ∃ x, xs[k]? = some x := ⟨_, List.getElem?_eq_getElem (by omega)⟩
      obtain ⟨ab6, ao7, rfl⟩ := RoL.pos hX eInt_len hx5
      refine Ops.to rfl ?_
      refine Cd.seq ?_
      refine Cd.cond_t rfl ?_
      refine Cd.skipTo rfl ?_
      refine Cd.seq ?_
      refine Cd.block ?_
      refine Cd.seq ?_
      refine Cd.region ?_
      refine Ops.q (q_ix (k := k) esz_26 rfl rfl (by omega)) ?_
      refine Ops.q (q_ldR isA_3 rfl (hX.at0 eInt_len hx5 rfl)) ?_
      refine Ops.q (q_asg rfl) ?_
      refine Ops.to rfl ?_
      refine Cd.seq ?_
      refine Cd.seq ?_
      refine Cd.region ?_
      refine Ops.q (q_mv rfl) ?_
      refine Ops.q (q_mv rfl) ?_
      by_cases hd8 : x4 ∈ xs.take k
      · refine Ops.q (q_look mpT_166 iK_3 rfl rfl .here (.inl (looki_in hd8))) ?_
        refine Ops.to rfl ?_
        refine Cd.cond_t rfl ?_
        refine Cd.seq ?_
        refine Cd.region ?_
        refine Ops.q (q_asg rfl) ?_
        refine Ops.to rfl ?_
        refine Cd.rt (fn := Try.f64) [.int .i64 5] (by with_reducible repeat (first | exact rq_here | apply rq_then | apply rq_block)) rfl ⟨rfl, trivial⟩ ?_
        intro w' hs'
        rw [show setE n xs = 5 by unfold setE; rw [if_pos (fun y hy => Decidable.of_not_not (fun hne => hc2 ⟨y, hy, hne⟩)), if_neg (nodup_stop hx5 hd8)]]
        exact ⟨rfl, ((hs'.pull (.there .here)).pull (.there .here)).drop⟩
      · refine Ops.q (q_look mpT_166 iK_3 rfl rfl .here (.inr ⟨looki_out hd8, zero_4⟩)) ?_
        refine Ops.to rfl ?_
        refine Cd.cond_f rfl ?_
        refine Cd.skipTo rfl ?_
        refine Cd.region ?_
        refine Ops.q (q_mv rfl) ?_
        refine Ops.q (q_mv rfl) ?_
        refine Ops.mpu mpT_166 iK_3 rfl rfl rfl .here ?_
        refine Ops.to rfl ?_
        refine Cd.region ?_
        refine Ops.q (q_ar rfl rfl (a_inc (by omega))) ?_
        refine Ops.q (q_mv rfl) ?_
        refine Ops.rnd (k + 1) rfl (⟨by omega, nodup_step hx5 hI.2 hd8⟩) (by omega) ⟨rfl, rfl, rfl, rfl, trivial⟩ (fun _ hs => by have h1 := ((hs.pull (.there .here)).pull (.there .here)); rw [updI_out hd8] at h1; rw [List.take_add_one, hx5]; exact h1) 
    · refine Ops.q (q_cmp rfl rfl (c_nlt (by omega))) ?_
      refine Ops.to rfl ?_
      refine Cd.seq ?_
      refine Cd.cond_f rfl ?_
      refine Cd.exitTo rfl ?_
      refine Cd.seq ?_
      refine Cd.region ?_
      refine Ops.q (q_asg rfl) ?_
      refine Ops.to rfl ?_
      refine Cd.rt (fn := Try.f64) [.int .i64 0] (by with_reducible repeat (first | exact rq_here | apply rq_then | apply rq_block)) rfl ⟨rfl, trivial⟩ ?_
      intro w' hs'
      rw [show setE n xs = 0 by unfold setE; rw [if_pos (fun y hy => Decidable.of_not_not (fun hne => hc2 ⟨y, hy, hne⟩)), if_pos (by have := hI.2; rwa [List.take_of_length_le (by omega)] at this)]]
      exact ⟨rfl, ((hs'.pull (.there .here)).pull (.there .here)).drop⟩
theorem has_c (xa : Option Addr) (xc : Nat) (xs : List Int) (y : Int) (w : World) (hX : RoL w xa eInt xs) (hl : xs.length ≤ 1000000) : Calls Try.prog 67 [.slice xa xs.length xc, .int .i64 y].toArray w fun e w' => e = .returned (.bool (decide (y ∈ xs))) ∧ Sat w w' [] := by
  refine fstart Try.func67 rfl rfl (Sat.nil w) ?_
  refine Cd.seq ?_
  refine Cd.region ?_
  refine Ops.q (q_asg rfl) ?_
  refine Ops.to rfl ?_
  refine Cd.seq ?_
  refine Cd.seq ?_
  refine Cd.region ?_
  refine Ops.q (q_asg rfl) ?_
  refine Ops.to rfl ?_
  refine Cd.block ?_
  refine Cd.lp (σ := Nat) (fun k => k ≤ xs.length ∧ ¬ y ∈ xs.take k) (fun k => [(0, .slice xa xs.length xc), (1, .int .i64 y), (5, .int .i64 (k : Int))]) (fun k => []) (fun k => xs.length - k) 0 ⟨Nat.zero_le _, by simp⟩ ⟨rfl, rfl, rfl, trivial⟩ (fun _ hs => hs) ?_
  intro k hI
  have hI1 := hI.1
  refine Cd.seq ?_
  refine Cd.seq ?_
  refine Cd.region ?_
  refine Ops.q (q_mv rfl) ?_
  refine Ops.q (q_mv rfl) ?_
  refine Ops.q (q_len esz_26 rfl) ?_
  by_cases hk : (k : Int) < (xs.length : Int)
  · refine Ops.q (q_cmp rfl rfl (c_lt hk)) ?_
    obtain ⟨x1, hx2⟩ : ∃ x, xs[k]? = some x := ⟨_, List.getElem?_eq_getElem (by omega)⟩
    obtain ⟨ab3, ao4, rfl⟩ := RoL.pos hX eInt_len hx2
    refine Ops.to rfl ?_
    refine Cd.cond_t rfl ?_
    refine Cd.skipTo rfl ?_
    refine Cd.seq ?_
    refine Cd.block ?_
    refine Cd.seq ?_
    refine Cd.region ?_
    refine Ops.q (q_mv rfl) ?_
    refine Ops.q (q_mv rfl) ?_
    refine Ops.q (q_ix (k := k) esz_26 rfl rfl (by omega)) ?_
    refine Ops.q (q_ldR isA_3 rfl (hX.at0 eInt_len hx2 rfl)) ?_
    refine Ops.q (q_mv rfl) ?_
    by_cases hq : x1 = y
    · refine Ops.q (q_cmp rfl rfl (c_eq hq)) ?_
      refine Ops.to rfl ?_
      refine Cd.cond_t rfl ?_
      refine Cd.seq ?_
      refine Cd.region ?_
      refine Ops.q (q_asg rfl) ?_
      refine Ops.to rfl ?_
      refine Cd.rt (fn := Try.f67) [.bool true] (by with_reducible repeat (first | exact rq_here | apply rq_then | apply rq_block)) rfl ⟨rfl, trivial⟩ ?_
      intro w' hs'
      exact ⟨ebool (by simpa using hq ▸ List.mem_iff_getElem?.2 ⟨k, hx2⟩), hs'.none⟩
    · refine Ops.q (q_cmp rfl rfl (c_neq hq)) ?_
      refine Ops.to rfl ?_
      refine Cd.cond_f rfl ?_
      refine Cd.skipTo rfl ?_
      refine Cd.region ?_
      refine Ops.q (q_mv rfl) ?_
      refine Ops.q (q_ar rfl rfl (a_inc (by omega))) ?_
      refine Ops.q (q_asg rfl) ?_
      refine Ops.rnd (k + 1) rfl (⟨by omega, notmem_step hx2 hI.2 (fun e => hq e.symm)⟩) (by omega) ⟨rfl, rfl, rfl, trivial⟩ (fun _ hs => hs) 
  · refine Ops.q (q_cmp rfl rfl (c_nlt (by omega))) ?_
    refine Ops.to rfl ?_
    refine Cd.cond_f rfl ?_
    refine Cd.exitTo rfl ?_
    refine Cd.seq ?_
    refine Cd.region ?_
    refine Ops.q (q_asg rfl) ?_
    refine Ops.to rfl ?_
    refine Cd.rt (fn := Try.f67) [.bool false] (by with_reducible repeat (first | exact rq_here | apply rq_then | apply rq_block)) rfl ⟨rfl, trivial⟩ ?_
    intro w' hs'
    exact ⟨ebool (by have h9 := hI.2; rw [List.take_of_length_le (by omega)] at h9; simpa using h9), hs'.none⟩
theorem hasK_c (xa : Option Addr) (xc k : Nat) (xs : List Int) (y : Int) (w : World) (hX : RoL w xa eInt xs) (hl : xs.length ≤ 1000000) (hk : k ≤ xs.length) : Calls Try.prog 67 [.slice xa k xc, .int .i64 y].toArray w fun e w' => e = .returned (.bool (decide (y ∈ xs.take k))) ∧ Sat w w' [] := by
  have h := has_c xa xc (xs.take k) y w (RoL.take hX k) (by rw [List.length_take]; omega)
  rwa [List.length_take, Nat.min_eq_left hk] at h
theorem set_c (xa : Option Addr) (xc : Nat) (xs : List Int) (n : Int) (w : World) (hX : RoL w xa eInt xs) (hl : xs.length ≤ 1000000) (hxc : xs.length ≤ xc) (hn : -1000000 ≤ n ∧ n ≤ 1000000) : Calls Try.prog 66 [.slice xa xs.length xc, .int .i64 n].toArray w fun e w' => e = .returned (.int .i64 (setE n xs)) ∧ Sat w w' [] := by
  refine fstart Try.func66 rfl rfl (Sat.nil w) ?_
  refine Cd.seq ?_
  refine Cd.region ?_
  refine Ops.q (q_asg rfl) ?_
  refine Ops.to rfl ?_
  refine Cd.seq ?_
  refine Cd.seq ?_
  refine Cd.region ?_
  refine Ops.q (q_asg rfl) ?_
  refine Ops.to rfl ?_
  refine Cd.block ?_
  refine Cd.lp (σ := Nat) (fun k => k ≤ xs.length ∧ ∀ y ∈ xs.take k, wi y 0 (n - 1)) (fun k => [(0, .slice xa xs.length xc), (1, .int .i64 n), (5, .int .i64 (k : Int))]) (fun k => []) (fun k => xs.length - k) 0 ⟨Nat.zero_le _, by simp⟩ ⟨rfl, rfl, rfl, trivial⟩ (fun _ hs => hs) ?_
  intro k hI
  have hI1 := hI.1
  refine Cd.seq ?_
  refine Cd.seq ?_
  refine Cd.region ?_
  refine Ops.q (q_mv rfl) ?_
  refine Ops.q (q_mv rfl) ?_
  refine Ops.q (q_len esz_26 rfl) ?_
  by_cases hk : (k : Int) < (xs.length : Int)
  · refine Ops.q (q_cmp rfl rfl (c_lt hk)) ?_
    obtain ⟨x1, hx2⟩ : ∃ x, xs[k]? = some x := ⟨_, List.getElem?_eq_getElem (by omega)⟩
    obtain ⟨ab3, ao4, rfl⟩ := RoL.pos hX eInt_len hx2
    refine Ops.to rfl ?_
    refine Cd.cond_t rfl ?_
    refine Cd.skipTo rfl ?_
    refine Cd.seq ?_
    refine Cd.block ?_
    refine Cd.seq ?_
    refine Cd.region ?_
    refine Ops.q (q_mv rfl) ?_
    refine Ops.q (q_mv rfl) ?_
    refine Ops.q (q_ix (k := k) esz_26 rfl rfl (by omega)) ?_
    refine Ops.q (q_ldR isA_3 rfl (hX.at0 eInt_len hx2 rfl)) ?_
    refine Ops.q (q_mv rfl) ?_
    refine Ops.q (q_ar (v := n - 1) rfl rfl (a_sub (by omega))) ?_
    by_cases h5 : wi x1 0 (n - 1)
    · refine Ops.cp en_59 rfl (fun w hs => dT (rwithin_c _ _ _ w) h5) ?_
      refine Ops.q (q_not rfl) ?_
      refine Ops.to rfl ?_
      refine Cd.cond_f rfl ?_
      refine Cd.skipTo rfl ?_
      refine Cd.region ?_
      refine Ops.q (q_mv rfl) ?_
      refine Ops.q (q_ar rfl rfl (a_inc (by omega))) ?_
      refine Ops.q (q_asg rfl) ?_
      refine Ops.rnd (k + 1) rfl (⟨by omega, by intro y hy; rw [List.take_add_one, hx2] at hy; rcases List.mem_append.1 hy with hy | hy; exact hI.2 y hy; obtain rfl := List.mem_singleton.1 hy; exact h5⟩) (by omega) ⟨rfl, rfl, rfl, trivial⟩ (fun _ hs => hs) 
    · refine Ops.cp en_59 rfl (fun w hs => dF (rwithin_c _ _ _ w) h5) ?_
      refine Ops.q (q_not rfl) ?_
      refine Ops.to rfl ?_
      refine Cd.cond_t rfl ?_
      refine Cd.seq ?_
      refine Cd.region ?_
      refine Ops.q (q_asg rfl) ?_
      refine Ops.to rfl ?_
      refine Cd.rt (fn := Try.f66) [.int .i64 4] (by with_reducible repeat (first | exact rq_here | apply rq_then | apply rq_block)) rfl ⟨rfl, trivial⟩ ?_
      intro w' hs'
      rw [show setE n xs = 4 by unfold setE; rw [if_neg (fun h => h5 (h _ (List.mem_iff_getElem?.2 ⟨k, hx2⟩)))]]
      exact ⟨rfl, hs'.none⟩
  · refine Ops.q (q_cmp rfl rfl (c_nlt (by omega))) ?_
    have hall : ∀ y ∈ xs, wi y 0 (n - 1) := by have := hI.2; rwa [List.take_of_length_le (by omega)] at this
    refine Ops.to rfl ?_
    refine Cd.cond_f rfl ?_
    refine Cd.exitTo rfl ?_
    refine Cd.seq ?_
    refine Cd.seq ?_
    refine Cd.region ?_
    refine Ops.q (q_asg rfl) ?_
    refine Ops.to rfl ?_
    refine Cd.block ?_
    refine Cd.lp (σ := Nat) (fun j => j ≤ xs.length ∧ (xs.take j).Nodup) (fun j => [(0, .slice xa xs.length xc), (1, .int .i64 n), (6, .int .i64 (j : Int))]) (fun j => []) (fun j => xs.length - j) 0 ⟨Nat.zero_le _, by simp⟩ ⟨rfl, rfl, rfl, trivial⟩ (fun _ hs => hs) ?_
    intro j hI
    have hI2 := hI.1
    refine Cd.seq ?_
    refine Cd.seq ?_
    refine Cd.region ?_
    refine Ops.q (q_mv rfl) ?_
    refine Ops.q (q_mv rfl) ?_
    refine Ops.q (q_len esz_26 rfl) ?_
    by_cases hj : (j : Int) < (xs.length : Int)
    · refine Ops.q (q_cmp rfl rfl (c_lt hj)) ?_
      obtain ⟨x6, hx7⟩ : ∃ x, xs[j]? = some x := ⟨_, List.getElem?_eq_getElem (by omega)⟩
      obtain ⟨ab8, ao9, rfl⟩ := RoL.pos hX eInt_len hx7
      refine Ops.to rfl ?_
      refine Cd.cond_t rfl ?_
      refine Cd.skipTo rfl ?_
      refine Cd.seq ?_
      refine Cd.block ?_
      refine Cd.seq ?_
      refine Cd.draw rfl (by kernel_rfl) .nil ?_
      intro F10 St11 hP12 hF13 hR14
      refine Dr.q (i := 0) hP12 rfl (by kernel_rfl) (q_mv rfl) ?_
      refine Dr.q (i := 1) hP12 rfl (by kernel_rfl) (q_mv rfl) ?_
      refine Dr.q (i := 2) hP12 rfl (by kernel_rfl) (q_cutHP (k := j) el_26 sz_3 rfl rfl (by omega)) ?_
      refine Dr.q (i := 3) hP12 rfl (by kernel_rfl) (q_mv rfl) ?_
      refine Dr.q (i := 4) hP12 rfl (by kernel_rfl) (q_mv rfl) ?_
      refine Dr.q (i := 5) hP12 rfl (by kernel_rfl) (q_ix (k := j) esz_26 rfl rfl (by omega)) ?_
      refine Dr.q (i := 6) hP12 rfl (by kernel_rfl) (q_ldR isA_3 rfl (hX.at0 eInt_len hx7 rfl)) ?_
      refine Dr.e (i := 7) rfl (by kernel_rfl) ?_
      by_cases h15 : x6 ∈ xs.take j
      · refine Ops.cp en_67 rfl (fun w hs => dT (hasK_c _ _ j xs x6 w (hX.later hs.below) hl (by omega)) h15) ?_
        refine Dr.back (fun _ hs => hF13 .here hs) ?_
        refine Dr.tail 8 (by kernel_rfl) ?_
        refine Ops.sat ?_ (fun _ hs => hR14 .here hs)
        refine Ops.to rfl ?_
        refine Cd.cond_t rfl ?_
        refine Cd.seq ?_
        refine Cd.region ?_
        refine Ops.q (q_asg rfl) ?_
        refine Ops.to rfl ?_
        refine Cd.rt (fn := Try.f66) [.int .i64 5] (by with_reducible repeat (first | exact rq_here | apply rq_then | apply rq_block)) rfl ⟨rfl, trivial⟩ ?_
        intro w' hs'
        rw [show setE n xs = 5 by unfold setE; rw [if_pos hall, if_neg (nodup_stop hx7 h15)]]
        exact ⟨rfl, hs'.none⟩
      · refine Ops.cp en_67 rfl (fun w hs => dF (hasK_c _ _ j xs x6 w (hX.later hs.below) hl (by omega)) h15) ?_
        refine Dr.back (fun _ hs => hF13 .here hs) ?_
        refine Dr.tail 8 (by kernel_rfl) ?_
        refine Ops.sat ?_ (fun _ hs => hR14 .here hs)
        refine Ops.to rfl ?_
        refine Cd.cond_f rfl ?_
        refine Cd.skipTo rfl ?_
        refine Cd.region ?_
        refine Ops.q (q_mv rfl) ?_
        refine Ops.q (q_ar rfl rfl (a_inc (by omega))) ?_
        refine Ops.q (q_asg rfl) ?_
        refine Ops.rnd (j + 1) rfl (⟨by omega, nodup_step hx7 hI.2 h15⟩) (by omega) ⟨rfl, rfl, rfl, trivial⟩ (fun _ hs => hs) 
    · refine Ops.q (q_cmp rfl rfl (c_nlt (by omega))) ?_
      refine Ops.to rfl ?_
      refine Cd.cond_f rfl ?_
      refine Cd.exitTo rfl ?_
      refine Cd.seq ?_
      refine Cd.region ?_
      refine Ops.q (q_asg rfl) ?_
      refine Ops.to rfl ?_
      refine Cd.rt (fn := Try.f66) [.int .i64 0] (by with_reducible repeat (first | exact rq_here | apply rq_then | apply rq_block)) rfl ⟨rfl, trivial⟩ ?_
      intro w' hs'
      rw [show setE n xs = 0 by unfold setE; rw [if_pos hall, if_pos (by have := hI.2; rwa [List.take_of_length_le (by omega)] at this)]]
      exact ⟨rfl, hs'.none⟩
end Go.Proofs.Ytilcdghliigngaa
namespace Go.Proofs.Ytilcdghliigngaa
open Go.RowKit Go.Proofs.YtilcdghliigngaaGl Go.Proofs.YtilcdghliigngaaPm
set_option linter.unusedVariables false
set_option linter.unusedSimpArgs false
abbrev CL := NL × Int
abbrev clP (l : CL) : List Int × Int := (l.1.2, l.2)
def eCl (l : CL) : List Value := [.slice l.1.1.1 l.1.2.length l.1.1.2, .int .i64 l.2]
theorem eCl_len (l : CL) : (eCl l).length = 2 := rfl
def RoCL (w : World) (a : Option Addr) (ls : List CL) : Prop := RoL w a eCl ls ∧ ∀ l ∈ ls, RoL w l.1.1.1 eInt l.1.2
theorem RoCL.later {w w' : World} {a : Option Addr} {ls : List CL} (h : RoCL w a ls) (hb : Below w.heap.size w w') : RoCL w' a ls := ⟨RoL.later h.1 hb, fun l hl => RoL.later (h.2 l hl) hb⟩
def claE (n : Int) (c : List Int × Int) : Int := if 16 < c.1.length then 9 else if setE n c.1 ≠ 0 then setE n c.1 else if wi c.2 (-1) (n - 1) then 0 else 4
def clS (m c : Nat) (x : List Int × Int) : List Syn :=
  (x.1.map (fun t : Int => (⟨t, ((m + 1 + c : Nat) : Int), 1, 1⟩ : Syn)) ++ (if x.1.length = 0 then [⟨-1 - 0, ((m + 1 + c : Nat) : Int), 1, 1⟩] else [])) ++ [⟨((m + 1 + c : Nat) : Int), if x.2 < 0 then (m : Int) else x.2, 1, 1⟩]
def clTo (m : Nat) (cs : List (List Int × Int)) (k : Nat) : List Syn := (List.range k).flatMap fun c => clS m c (cs.getD c ([], 0))
def hornP (n : Int) (cs : List (List Int × Int)) : Except Int NetP :=
  if wi n 1 256 then
    if 512 < cs.length then .error 9
    else if firstE (claE n) cs ≠ 0 then .error (firstE (claE n) cs)
    else .ok ⟨List.replicate (n.toNat + 1) (onceP 1) ++ cs.map (fun c => onceP (max 1 (c.1.length : Int))), 1, selvesFrom 0 (n.toNat + 1 + cs.length) ++ clTo n.toNat cs cs.length⟩
  else .error 3
theorem clS_len (m c : Nat) (x : List Int × Int) : (clS m c x).length ≤ x.1.length + 2 := by
  unfold clS
  simp only [List.length_append, List.length_map, List.length_cons, List.length_nil]
  split <;> simp
theorem clTo_len {m : Nat} {cs : List (List Int × Int)} (h : ∀ x ∈ cs, x.1.length ≤ 16) : ∀ k, k ≤ cs.length → (clTo m cs k).length ≤ k * 18
  | 0, _ => by simp [clTo]
  | k + 1, hk => by
    have ih := clTo_len (m := m) h k (by omega)
    unfold clTo at ih ⊢
    rw [rf_app, List.length_append]
    obtain ⟨x, hx⟩ : ∃ x, cs[k]? = some x := ⟨_, List.getElem?_eq_getElem (by omega)⟩
    rw [getD_at hx]
    have h1 := clS_len m k x
    have h2 := h x (List.mem_iff_getElem?.2 ⟨k, hx⟩)
    omega
theorem cl_stepE {m q : Nat} {cs : List (List Int × Int)} {xr : List Int} {xt to : Int} (h : cs[q]? = some (xr, xt)) (h0 : xr.length = 0) (ht : (if xt < 0 then (m : Int) else xt) = to) (X : List Syn) :
    X ++ clTo m cs (q + 1) = (((X ++ clTo m cs q) ++ xr.map (fun t : Int => (⟨t, ((m + 1 + q : Nat) : Int), 1, 1⟩ : Syn))) ++ [⟨-1 - 0, ((m + 1 + q : Nat) : Int), 1, 1⟩]) ++ [⟨((m + 1 + q : Nat) : Int), to, 1, 1⟩] := by
  unfold clTo
  rw [rf_app, getD_at h, clS, if_pos h0, ht]
  simp
theorem cl_stepN {m q : Nat} {cs : List (List Int × Int)} {xr : List Int} {xt to : Int} (h : cs[q]? = some (xr, xt)) (h0 : ¬ xr.length = 0) (ht : (if xt < 0 then (m : Int) else xt) = to) (X : List Syn) :
    X ++ clTo m cs (q + 1) = ((X ++ clTo m cs q) ++ xr.map (fun t : Int => (⟨t, ((m + 1 + q : Nat) : Int), 1, 1⟩ : Syn))) ++ [⟨((m + 1 + q : Nat) : Int), to, 1, 1⟩] := by
  unfold clTo
  rw [rf_app, getD_at h, clS, if_neg h0, ht]
  simp
theorem claE_9 {n : Int} {c : List Int × Int} (h : 16 < c.1.length) : claE n c = 9 := by unfold claE; rw [if_pos h]
theorem claE_s {n : Int} {c : List Int × Int} (h : ¬ 16 < c.1.length) (h2 : ¬ setE n c.1 = 0) : claE n c = setE n c.1 := by unfold claE; rw [if_neg h, if_pos h2]
theorem claE_4 {n : Int} {c : List Int × Int} (h : ¬ 16 < c.1.length) (h2 : setE n c.1 = 0) (h3 : ¬ wi c.2 (-1) (n - 1)) : claE n c = 4 := by unfold claE; rw [if_neg h, if_neg (by simpa using h2), if_neg h3]
theorem claE_0 {n : Int} {c : List Int × Int} (h : ¬ 16 < c.1.length) (h2 : setE n c.1 = 0) (h3 : wi c.2 (-1) (n - 1)) : claE n c = 0 := by unfold claE; rw [if_neg h, if_neg (by simpa using h2), if_pos h3]
theorem claE_16 {n : Int} {c : List Int × Int} (h : claE n c = 0) : c.1.length ≤ 16 := by
  unfold claE at h
  split at h
  · cases h
  · omega
theorem horn_c (n : Int) (la : Option Addr) (lc : Nat) (ls : List CL) (w : World) (hL : RoCL w la ls) : Calls Try.prog 26 [.int .i64 n, .slice la ls.length lc].toArray w (RetR (hornP n (ls.map clP)) w) := by
  refine fstart Try.func26 rfl rfl (Sat.nil w) ?_
  refine Cd.seq ?_
  refine Cd.region ?_
  refine Ops.alc [.slice none 0 0, .int .i64 0, .slice none 0 0] zc_32 ?_
  intro b1
  refine Ops.q (q_asg rfl) ?_
  refine Ops.to rfl ?_
  refine Cd.seq ?_
  refine Cd.block ?_
  refine Cd.seq ?_
  refine Cd.region ?_
  refine Ops.q (q_mv rfl) ?_
  by_cases h2 : wi n 1 256
  · refine Ops.cp en_57 rfl (fun w hs => dT (in_c _ _ _ w) h2) ?_
    refine Ops.q (q_not rfl) ?_
    refine Ops.q (q_asg rfl) ?_
    refine Ops.to rfl ?_
    refine Cd.cond_f rfl ?_
    refine Cd.seq ?_
    refine Cd.region ?_
    obtain ⟨m, rfl⟩ : ∃ j : Nat, n = (j : Int) := ⟨n.toNat, by unfold wi at h2; omega⟩
    have hm : 1 ≤ m ∧ m ≤ 256 := by unfold wi at h2; omega
    refine Ops.q (q_mv rfl) ?_
    refine Ops.q (q_len esz_52 rfl) ?_
    by_cases h3 : 512 < (ls.length : Int)
    · refine Ops.q (q_cmp rfl rfl (c_gt h3)) ?_
      refine Ops.q (q_asg rfl) ?_
      refine Ops.to rfl ?_
      refine Cd.cond_t rfl ?_
      refine Cd.seq ?_
      refine Cd.region ?_
      refine Ops.q (q_bld [.slice none 0 0, .int .i64 0, .slice none 0 0] pls_32 zc_32 rfl rfl) ?_
      refine Ops.stB [.slice none 0 0, .int .i64 0, .slice none 0 0] [.slice none 0 0, .int .i64 0, .slice none 0 0] sz_32 rfl rfl rfl (one rfl) .here rfl rfl ?_
      refine Ops.q (q_asg rfl) ?_
      refine Ops.to rfl ?_
      refine Cd.rt (fn := Try.f26) [.agg [.slice none 0 0, .int .i64 0, .slice none 0 0].toArray, .int .i64 9] (by with_reducible repeat (first | exact rq_here | apply rq_then | apply rq_block)) rfl ⟨⟨_, _, rfl, fun _ hs => run_loadN isA_32 sz_32 (fun o u hu => Sat.atB .here (by rw [Nat.zero_add]; exact hu) hs)⟩, rfl, trivial⟩ ?_
      intro w' hs'
      rw [show hornP (m : Int) (ls.map clP) = .error 9 by unfold hornP; rw [if_pos h2, if_pos (by rw [List.length_map]; omega)]]
      exact ⟨rfl, hs'.none⟩
    · refine Ops.q (q_cmp rfl rfl (c_ngt (by omega))) ?_
      refine Ops.q (q_asg rfl) ?_
      refine Ops.to rfl ?_
      refine Cd.cond_f rfl ?_
      refine Cd.skipTo rfl ?_
      refine Cd.seq ?_
      refine Cd.region ?_
      refine Ops.q (q_bld [.slice none 0 0, .int .i64 1, .slice none 0 0] pls_32 zc_32 rfl rfl) ?_
      refine Ops.q (q_bld [.slice none 0 0, .int .i64 1, .slice none 0 0] pls_114 zc_114 rfl rfl) ?_
      refine Ops.alc [.slice none 0 0, .int .i64 0, .slice none 0 0] zc_114 ?_
      intro b4
      refine Ops.stB [.slice none 0 0, .int .i64 1, .slice none 0 0] [.slice none 0 0, .int .i64 1, .slice none 0 0] sz_114 rfl rfl rfl (one rfl) .here rfl rfl ?_
      refine Ops.to rfl ?_
      refine Cd.seq ?_
      refine Cd.nilRow 126 4 ?_
      refine Cd.nilRow 116 8 ?_
      change Cd _ _ _ _ _ _ _ _ ([row none 0 116 8 (([] : List Prm).length) (([] : List Prm).flatMap ePrm), row none 0 126 4 (([] : List Syn).length) (([] : List Syn).flatMap eSyn), blk b4 114 [.slice none (([] : List Prm).length) 0, .int .i64 1, .slice none (([] : List Syn).length) 0], blk b1 32 [.slice none 0 0, .int .i64 0, .slice none 0 0]])
      refine Cd.region ?_
      refine Ops.cp en_60 rfl (fun w hs => once_c w) ?_
      refine Ops.cl (α := Nat × Nat) (v := fun x => .func (.func 86) #[] #[.pointer (some ⟨x.1, 0, none⟩), .pointer (some ⟨x.2, 0, none⟩)]) (B := fun x => [blk x.1 116 (ePrm (onceP 0)), blk x.2 161 [.pointer (some ⟨b4, 0, none⟩)]]) en_49 rfl (fun w hs => grow_c b4 (onceP 0) w) ?_
      rintro ⟨pb5, bb6⟩
      refine Ops.q (q_asg rfl) ?_
      refine Ops.to rfl ?_
      refine Cd.seq ?_
      refine Cd.region ?_
      refine Ops.q (q_mv rfl) ?_
      refine Ops.lit [.int .i64 1] el_26 zsb_3 rfl rfl ⟨by decide, by decide⟩ rfl ?_
      intro b7
      refine Ops.q (q_mv rfl) ?_
      refine Ops.q (q_ar (v := ((m + 1 : Nat) : Int)) rfl rfl (a_inc (by omega))) ?_
      refine Ops.cm (α := Option Addr × Nat) (v := fun p => .slice p.1 (List.replicate (m + 1) (1 : Int)).length p.2) (A' := fun p => row p.1 p.2 3 1 (List.replicate (m + 1) (1 : Int)).length ((List.replicate (m + 1) (1 : Int)).flatMap eInt) :: [row (some ⟨b7, 0, none⟩) 1 3 1 1 [.int .i64 1], blk pb5 116 (ePrm (onceP 0)), blk bb6 161 [.pointer (some ⟨b4, 0, none⟩)], row none 0 116 8 (([] : List Prm).length) (([] : List Prm).flatMap ePrm), row none 0 126 4 (([] : List Syn).length) (([] : List Syn).flatMap eSyn), blk b4 114 [.slice none (([] : List Prm).length) 0, .int .i64 1, .slice none (([] : List Syn).length) 0], blk b1 32 [.slice none 0 0, .int .i64 0, .slice none 0 0]]) en_52 rfl (fun w hs => repeat_l b7 1 (m + 1) _ w _ (by omega) ((((((((hs.pull (.there (.there (.there (.there (.there (.there .here))))))).pull (.there (.there (.there (.there (.there (.there .here))))))).pull (.there (.there (.there (.there (.there (.there .here))))))).pull (.there (.there (.there (.there (.there (.there .here))))))).pull (.there (.there (.there (.there (.there (.there .here))))))).pull (.there (.there (.there (.there (.there (.there .here))))))).pull (.there (.there (.there (.there (.there (.there .here))))))))) ?_
      rintro ⟨a8, c9⟩
      refine Ops.cv (α := Option Addr × Nat) (k := 86) (first := []) (caps := [.pointer (some ⟨pb5, 0, none⟩), .pointer (some ⟨bb6, 0, none⟩)]) (vs := [.slice a8 ((List.replicate (m + 1) (1 : Int)).length) c9]) (v := fun _ => .tuple #[]) (A' := fun p => [blk b4 114 [.slice p.1 ((([] : List Prm) ++ (List.replicate (m + 1) (1 : Int)).map (setTh (onceP 0))).length) p.2, .int .i64 1, .slice none (([] : List Syn).length) 0], row p.1 p.2 116 8 ((([] : List Prm) ++ (List.replicate (m + 1) (1 : Int)).map (setTh (onceP 0))).length) ((([] : List Prm) ++ (List.replicate (m + 1) (1 : Int)).map (setTh (onceP 0))).flatMap ePrm), row none 0 126 4 (([] : List Syn).length) (([] : List Syn).flatMap eSyn), blk pb5 116 (ePrm (onceP 0)), blk bb6 161 [.pointer (some ⟨b4, 0, none⟩)], row a8 c9 3 1 ((List.replicate (m + 1) (1 : Int)).length) ((List.replicate (m + 1) (1 : Int)).flatMap eInt), row (some ⟨b7, 0, none⟩) 1 3 1 1 [.int .i64 1], blk b1 32 [.slice none 0 0, .int .i64 0, .slice none 0 0]]) en_86 rfl rfl (fun w hs => grown_c b4 _ _ _ _ ([] : List Prm) _ ([] : List Syn) pb5 bb6 _ _ (List.replicate (m + 1) (1 : Int)) _ _ w _ (by simp only [List.length_append, List.length_map, List.length_take, List.length_cons, List.length_nil, List.length_replicate, selves_len]; omega) (((((((((hs.pull (.there (.there (.there (.there (.there (.there (.there .here)))))))).pull (.there (.there .here))).pull (.there (.there .here))).pull (.there (.there (.there (.there .here))))).pull (.there (.there (.there (.there .here))))).pull (.there (.there (.there (.there (.there (.there .here))))))).pull (.there (.there (.there (.there (.there (.there .here))))))).pull (.there (.there (.there (.there (.there (.there (.there .here)))))))))) ?_
      rintro ⟨a10, c11⟩
      refine Ops.to rfl ?_
      refine Cd.seq ?_
      refine Cd.seq ?_
      refine Cd.region ?_
      refine Ops.q (q_mv rfl) ?_
      refine Ops.q (q_len esz_52 rfl) ?_
      refine Ops.q (q_mv rfl) ?_
      refine Ops.to rfl ?_
      refine Cd.block ?_
      refine Cd.lp (σ := Nat × Option Addr × Nat) (fun s => s.1 ≤ ls.length ∧ firstE (claE (m : Int)) ((ls.map clP).drop s.1) = firstE (claE (m : Int)) (ls.map clP)) (fun s => [(0, .int .i64 (m : Int)), (1, .slice la ls.length lc), (4, .pointer (some ⟨b1, 0, none⟩)), (6, .pointer (some ⟨b4, 0, none⟩)), (7, .func (.func 86) #[] #[.pointer (some ⟨pb5, 0, none⟩), .pointer (some ⟨bb6, 0, none⟩)]), (36, .slice la ls.length lc), (37, .int .i64 (ls.length : Int)), (38, .int .i64 (s.1 : Int))]) (fun s => [blk b4 114 [.slice s.2.1 (((([] : List Prm) ++ (List.replicate (m + 1) (1 : Int)).map (setTh (onceP 0))) ++ (ls.take s.1).map (fun l : CL => setTh (onceP 0) (max 1 (l.1.2.length : Int)))).length) s.2.2, .int .i64 1, .slice none (([] : List Syn).length) 0], row s.2.1 s.2.2 116 8 (((([] : List Prm) ++ (List.replicate (m + 1) (1 : Int)).map (setTh (onceP 0))) ++ (ls.take s.1).map (fun l : CL => setTh (onceP 0) (max 1 (l.1.2.length : Int)))).length) (((([] : List Prm) ++ (List.replicate (m + 1) (1 : Int)).map (setTh (onceP 0))) ++ (ls.take s.1).map (fun l : CL => setTh (onceP 0) (max 1 (l.1.2.length : Int)))).flatMap ePrm), row none 0 126 4 (([] : List Syn).length) (([] : List Syn).flatMap eSyn), blk pb5 116 (ePrm (onceP 0)), blk bb6 161 [.pointer (some ⟨b4, 0, none⟩)], blk b1 32 [.slice none 0 0, .int .i64 0, .slice none 0 0]]) (fun s => ls.length - s.1) (0, a10, c11) ⟨Nat.zero_le _, rfl⟩ ⟨rfl, rfl, rfl, rfl, rfl, rfl, rfl, rfl, trivial⟩ (fun _ hs => by have h1 := ((((((((hs.pull (.there (.there (.there (.there (.there (.there (.there .here)))))))).pull (.there (.there (.there (.there (.there .here)))))).pull (.there (.there (.there (.there (.there .here)))))).pull (.there (.there (.there (.there (.there .here)))))).pull (.there (.there (.there (.there (.there .here)))))).pull (.there (.there (.there (.there (.there .here)))))).pull (.there (.there (.there (.there (.there (.there .here))))))).drop.pull (.there (.there (.there (.there (.there (.there .here))))))).drop; dsimp only; rw [show ((([] : List Prm) ++ (List.replicate (m + 1) (1 : Int)).map (setTh (onceP 0))) ++ (ls.take 0).map (fun l : CL => setTh (onceP 0) (max 1 (l.1.2.length : Int)))) = (([] : List Prm) ++ (List.replicate (m + 1) (1 : Int)).map (setTh (onceP 0))) from List.append_nil _]; exact h1) ?_
      rintro ⟨k, pa, pc⟩ hI
      dsimp only at hI
      change Cd _ _ _ _ _ _ _ [(0, .int .i64 (m : Int)), (1, .slice la ls.length lc), (4, .pointer (some ⟨b1, 0, none⟩)), (6, .pointer (some ⟨b4, 0, none⟩)), (7, .func (.func 86) #[] #[.pointer (some ⟨pb5, 0, none⟩), .pointer (some ⟨bb6, 0, none⟩)]), (36, .slice la ls.length lc), (37, .int .i64 (ls.length : Int)), (38, .int .i64 (k : Int))] ([blk b4 114 [.slice pa (((([] : List Prm) ++ (List.replicate (m + 1) (1 : Int)).map (setTh (onceP 0))) ++ (ls.take k).map (fun l : CL => setTh (onceP 0) (max 1 (l.1.2.length : Int)))).length) pc, .int .i64 1, .slice none (([] : List Syn).length) 0], row pa pc 116 8 (((([] : List Prm) ++ (List.replicate (m + 1) (1 : Int)).map (setTh (onceP 0))) ++ (ls.take k).map (fun l : CL => setTh (onceP 0) (max 1 (l.1.2.length : Int)))).length) (((([] : List Prm) ++ (List.replicate (m + 1) (1 : Int)).map (setTh (onceP 0))) ++ (ls.take k).map (fun l : CL => setTh (onceP 0) (max 1 (l.1.2.length : Int)))).flatMap ePrm), row none 0 126 4 (([] : List Syn).length) (([] : List Syn).flatMap eSyn), blk pb5 116 (ePrm (onceP 0)), blk bb6 161 [.pointer (some ⟨b4, 0, none⟩)], blk b1 32 [.slice none 0 0, .int .i64 0, .slice none 0 0]])
      have hI1 := hI.1
      refine Cd.seq ?_
      refine Cd.region ?_
      by_cases hk : (k : Int) < (ls.length : Int)
      · refine Ops.q (q_cmp rfl rfl (c_lt hk)) ?_
        obtain ⟨⟨⟨⟨xa, xc⟩, xr⟩, xt⟩, hx⟩ : ∃ x, ls[k]? = some x := ⟨_, List.getElem?_eq_getElem (by omega)⟩
        have hxe : RoL w xa eInt xr := hL.2 _ (List.mem_iff_getElem?.2 ⟨k, hx⟩)
        skip
        have hxq : (ls.map clP)[k]? = some (xr, xt) := by rw [List.getElem?_map, hx]; rfl
        obtain ⟨lb, lo, rfl⟩ := RoL.pos hL.1 eCl_len hx
        refine Ops.to rfl ?_
        refine Cd.seq ?_
        refine Cd.cond_t rfl ?_
        refine Cd.skipTo rfl ?_
        refine Cd.seq ?_
        refine Cd.block ?_
        refine Cd.seq ?_
        refine Cd.region ?_
        refine Ops.q (q_ix (k := k) esz_52 rfl rfl (by omega)) ?_
        refine Ops.q (q_ldRN [.slice xa xr.length xc, .int .i64 xt] isA_55 sz_55 rfl (fun j u hu => hL.1.at eCl_len hx hu)) ?_
        refine Ops.alc [.slice none 0 0, .int .i64 0] zc_55 ?_
        intro b12
        refine Ops.stB [.slice xa xr.length xc, .int .i64 xt] [.slice xa xr.length xc, .int .i64 xt] sz_55 rfl rfl rfl (one rfl) .here rfl rfl ?_
        refine Ops.to rfl ?_
        refine Cd.seq ?_
        refine Cd.seq ?_
        refine Cd.region ?_
        refine Ops.q (q_fa fo_55_0 rfl) ?_
        refine Ops.q (q_ldB isA_26 rfl .here rfl) ?_
        refine Ops.q (q_len esz_26 rfl) ?_
        by_cases hx16 : 16 < (xr.length : Int)
        · refine Ops.q (q_cmp rfl rfl (c_gt hx16)) ?_
          refine Ops.to rfl ?_
          refine Cd.cond_t rfl ?_
          refine Cd.seq ?_
          refine Cd.region ?_
          refine Ops.q (q_bld [.slice none 0 0, .int .i64 0, .slice none 0 0] pls_32 zc_32 rfl rfl) ?_
          refine Ops.stB [.slice none 0 0, .int .i64 0, .slice none 0 0] [.slice none 0 0, .int .i64 0, .slice none 0 0] sz_32 rfl rfl rfl (one rfl) (.there (.there (.there (.there (.there (.there .here)))))) rfl rfl ?_
          refine Ops.q (q_asg rfl) ?_
          refine Ops.to rfl ?_
          refine Cd.rt (fn := Try.f26) [.agg [.slice none 0 0, .int .i64 0, .slice none 0 0].toArray, .int .i64 9] (by with_reducible repeat (first | exact rq_here | apply rq_then | apply rq_block)) rfl ⟨⟨_, _, rfl, fun _ hs => run_loadN isA_32 sz_32 (fun o u hu => Sat.atB (.there (.there (.there (.there (.there (.there .here)))))) (by rw [Nat.zero_add]; exact hu) hs)⟩, rfl, trivial⟩ ?_
          intro w' hs'
          have h8 : claE (m : Int) (xr, xt) = 9 := claE_9 (by show 16 < xr.length; omega)
          have h9 : firstE (claE (m : Int)) (ls.map clP) = 9 := by rw [← hI.2, firstE_stop hxq (by rw [h8]; decide), h8]
          rw [show hornP (m : Int) (ls.map clP) = .error (9) by unfold hornP; rw [if_pos h2, if_neg (by rw [List.length_map]; omega), h9, if_pos (by decide)]]
          exact ⟨rfl, hs'.none⟩
        · refine Ops.q (q_cmp rfl rfl (c_ngt (by omega))) ?_
          refine Ops.to rfl ?_
          refine Cd.cond_f rfl ?_
          refine Cd.skipTo rfl ?_
          refine Cd.seq ?_
          refine Cd.seq ?_
          refine Cd.draw rfl (by kernel_rfl) (.cons .here .nil) ?_
          intro F13 St14 hP15 hF16 hR17
          refine Dr.q (i := 0) hP15 rfl (by kernel_rfl) (q_fa fo_55_0 rfl) ?_
          refine Dr.q (i := 1) hP15 rfl (by kernel_rfl) (q_ldB isA_26 rfl .here rfl) ?_
          refine Dr.q (i := 2) hP15 rfl (by kernel_rfl) (q_mv rfl) ?_
          refine Dr.e (i := 3) rfl (by kernel_rfl) ?_
          refine Ops.cl (α := Nat) (v := fun b => .func (.func 92) #[] #[.pointer (some ⟨b, 0, none⟩)]) (B := fun b => [blk b 3 [.int .i64 (m : Int)]]) en_65 rfl (fun w hs => below_c (m : Int) w) ?_
          intro bl18
          refine Dr.back (fun _ hs => hF16 (.there .here) hs) ?_
          refine Dr.e (i := 4) rfl (by kernel_rfl) ?_
          refine Ops.cm (α := Unit) (v := fun _ => .int .i64 (setE (m : Int) xr)) (A' := fun _ => [blk bl18 3 [.int .i64 (m : Int)], F13, blk b4 114 [.slice pa (((([] : List Prm) ++ (List.replicate (m + 1) (1 : Int)).map (setTh (onceP 0))) ++ (ls.take k).map (fun l : CL => setTh (onceP 0) (max 1 (l.1.2.length : Int)))).length) pc, .int .i64 1, .slice none (([] : List Syn).length) 0], row pa pc 116 8 (((([] : List Prm) ++ (List.replicate (m + 1) (1 : Int)).map (setTh (onceP 0))) ++ (ls.take k).map (fun l : CL => setTh (onceP 0) (max 1 (l.1.2.length : Int)))).length) (((([] : List Prm) ++ (List.replicate (m + 1) (1 : Int)).map (setTh (onceP 0))) ++ (ls.take k).map (fun l : CL => setTh (onceP 0) (max 1 (l.1.2.length : Int)))).flatMap ePrm), row none 0 126 4 (([] : List Syn).length) (([] : List Syn).flatMap eSyn), blk pb5 116 (ePrm (onceP 0)), blk bb6 161 [.pointer (some ⟨b4, 0, none⟩)], blk b1 32 [.slice none 0 0, .int .i64 0, .slice none 0 0]]) en_64 rfl (fun w hs => (different_c bl18 _ _ xr _ _ w _ hxe (by omega) (by omega) (((((((((hs.pull (.there (.there (.there (.there (.there (.there (.there .here)))))))).pull (.there (.there (.there (.there (.there (.there (.there .here)))))))).pull (.there (.there (.there (.there (.there (.there (.there .here)))))))).pull (.there (.there (.there (.there (.there (.there (.there .here)))))))).pull (.there (.there (.there (.there (.there (.there (.there .here)))))))).pull (.there (.there (.there (.there (.there (.there (.there .here)))))))).pull (.there (.there (.there (.there (.there (.there (.there .here)))))))).pull (.there (.there (.there (.there (.there (.there (.there .here)))))))))).mono fun e w' h => ⟨(), h.1, h.2⟩) ?_
          intro _
          refine Dr.back (fun _ hs => hF16 (.there .here) hs) ?_
          refine Dr.tail 5 (by kernel_rfl) ?_
          refine Ops.sat ?_ (fun _ hs => hR17 (.there .here) hs)
          refine Ops.q (q_asg rfl) ?_
          refine Ops.to rfl ?_
          refine Cd.seq ?_
          refine Cd.region ?_
          refine Ops.q (q_mv rfl) ?_
          by_cases hset : setE (m : Int) xr = 0
          · refine Ops.q (q_cmp rfl rfl (c_nne hset)) ?_
            refine Ops.to rfl ?_
            refine Cd.cond_f rfl ?_
            refine Cd.skipTo rfl ?_
            refine Cd.seq ?_
            refine Cd.seq ?_
            refine Cd.region ?_
            refine Ops.q (q_fa fo_55_1 rfl) ?_
            refine Ops.q (q_ldB isA_3 rfl .here rfl) ?_
            refine Ops.q (q_mv rfl) ?_
            refine Ops.q (q_ar (v := (m : Int) - 1) rfl rfl (a_sub (by omega))) ?_
            by_cases h19 : wi xt (-1) ((m : Int) - 1)
            · refine Ops.cp en_57 rfl (fun w hs => dT (in_c _ _ _ w) h19) ?_
              refine Ops.q (q_not rfl) ?_
              refine Ops.to rfl ?_
              refine Cd.cond_f rfl ?_
              refine Cd.skipTo rfl ?_
              refine Cd.region ?_
              refine Ops.q (q_mv rfl) ?_
              refine Ops.q (q_fa fo_55_0 rfl) ?_
              refine Ops.q (q_ldB isA_26 rfl .here rfl) ?_
              refine Ops.q (q_len esz_26 rfl) ?_
              refine Ops.q (q_max rfl rfl) ?_
              refine Ops.lit [.int .i64 (max 1 (xr.length : Int))] el_26 zsb_3 rfl rfl ⟨by decide, by decide⟩ rfl ?_
              intro b20
              refine Ops.cv (α := Option Addr × Nat) (k := 86) (first := []) (caps := [.pointer (some ⟨pb5, 0, none⟩), .pointer (some ⟨bb6, 0, none⟩)]) (vs := [.slice (some ⟨b20, 0, none⟩) ([max 1 (xr.length : Int)].length) 1]) (v := fun _ => .tuple #[]) (A' := fun p => [blk b4 114 [.slice p.1 ((((([] : List Prm) ++ (List.replicate (m + 1) (1 : Int)).map (setTh (onceP 0))) ++ (ls.take k).map (fun l : CL => setTh (onceP 0) (max 1 (l.1.2.length : Int)))) ++ [max 1 (xr.length : Int)].map (setTh (onceP 0))).length) p.2, .int .i64 1, .slice none (([] : List Syn).length) 0], row p.1 p.2 116 8 ((((([] : List Prm) ++ (List.replicate (m + 1) (1 : Int)).map (setTh (onceP 0))) ++ (ls.take k).map (fun l : CL => setTh (onceP 0) (max 1 (l.1.2.length : Int)))) ++ [max 1 (xr.length : Int)].map (setTh (onceP 0))).length) ((((([] : List Prm) ++ (List.replicate (m + 1) (1 : Int)).map (setTh (onceP 0))) ++ (ls.take k).map (fun l : CL => setTh (onceP 0) (max 1 (l.1.2.length : Int)))) ++ [max 1 (xr.length : Int)].map (setTh (onceP 0))).flatMap ePrm), row none 0 126 4 (([] : List Syn).length) (([] : List Syn).flatMap eSyn), blk pb5 116 (ePrm (onceP 0)), blk bb6 161 [.pointer (some ⟨b4, 0, none⟩)], row (some ⟨b20, 0, none⟩) 1 3 1 ([max 1 (xr.length : Int)].length) ([max 1 (xr.length : Int)].flatMap eInt), blk b12 55 [.slice xa xr.length xc, .int .i64 xt], blk bl18 3 [.int .i64 (m : Int)], blk b1 32 [.slice none 0 0, .int .i64 0, .slice none 0 0]]) en_86 rfl rfl (fun w hs => grown_c b4 _ _ _ _ ((([] : List Prm) ++ (List.replicate (m + 1) (1 : Int)).map (setTh (onceP 0))) ++ (ls.take k).map (fun l : CL => setTh (onceP 0) (max 1 (l.1.2.length : Int)))) _ ([] : List Syn) pb5 bb6 _ _ [max 1 (xr.length : Int)] _ _ w _ (by simp only [List.length_append, List.length_map, List.length_take, List.length_cons, List.length_nil, List.length_replicate, selves_len]; omega) ((((((((((hs.pull (.there (.there (.there (.there (.there (.there (.there (.there .here))))))))).pull (.there (.there (.there .here)))).pull (.there (.there (.there .here)))).pull (.there (.there (.there .here)))).pull (.there (.there (.there (.there (.there (.there (.there (.there .here))))))))).pull (.there (.there (.there (.there (.there (.there (.there (.there .here))))))))).pull (.there (.there (.there (.there (.there (.there (.there (.there .here))))))))).pull (.there (.there (.there (.there (.there (.there (.there (.there .here))))))))).pull (.there (.there (.there (.there (.there (.there (.there (.there .here))))))))))) ?_
              rintro ⟨a21, c22⟩
              refine Ops.to rfl ?_
              refine Cd.region ?_
              refine Ops.q (q_ar rfl rfl (a_inc (by omega))) ?_
              refine Ops.q (q_mv rfl) ?_
              refine Ops.rnd ((k + 1, a21, c22)) rfl (by dsimp only; exact (⟨by omega, by rw [← hI.2]; exact (firstE_step hxq (claE_0 (by show ¬ 16 < xr.length; omega) hset h19)).symm⟩)) (by dsimp only; omega) ⟨rfl, rfl, rfl, rfl, rfl, rfl, rfl, rfl, trivial⟩ (fun _ hs => by have h1 := (((((((((hs.pull (.there (.there (.there (.there (.there (.there (.there (.there .here))))))))).pull (.there (.there (.there (.there (.there .here)))))).pull (.there (.there (.there (.there (.there .here)))))).pull (.there (.there (.there (.there (.there .here)))))).pull (.there (.there (.there (.there (.there .here)))))).pull (.there (.there (.there (.there (.there .here)))))).pull (.there (.there (.there (.there (.there (.there .here))))))).drop.pull (.there (.there (.there (.there (.there (.there .here))))))).drop.pull (.there (.there (.there (.there (.there (.there .here))))))).drop; dsimp only; rw [mapT _ hx, ← List.append_assoc]; exact h1) 
            · refine Ops.cp en_57 rfl (fun w hs => dF (in_c _ _ _ w) h19) ?_
              refine Ops.q (q_not rfl) ?_
              refine Ops.to rfl ?_
              refine Cd.cond_t rfl ?_
              refine Cd.seq ?_
              refine Cd.region ?_
              refine Ops.q (q_bld [.slice none 0 0, .int .i64 0, .slice none 0 0] pls_32 zc_32 rfl rfl) ?_
              refine Ops.stB [.slice none 0 0, .int .i64 0, .slice none 0 0] [.slice none 0 0, .int .i64 0, .slice none 0 0] sz_32 rfl rfl rfl (one rfl) (.there (.there (.there (.there (.there (.there (.there .here))))))) rfl rfl ?_
              refine Ops.q (q_asg rfl) ?_
              refine Ops.to rfl ?_
              refine Cd.rt (fn := Try.f26) [.agg [.slice none 0 0, .int .i64 0, .slice none 0 0].toArray, .int .i64 4] (by with_reducible repeat (first | exact rq_here | apply rq_then | apply rq_block)) rfl ⟨⟨_, _, rfl, fun _ hs => run_loadN isA_32 sz_32 (fun o u hu => Sat.atB (.there (.there (.there (.there (.there (.there (.there .here))))))) (by rw [Nat.zero_add]; exact hu) hs)⟩, rfl, trivial⟩ ?_
              intro w' hs'
              have h8 : claE (m : Int) (xr, xt) = 4 := claE_4 (by show ¬ 16 < xr.length; omega) hset h19
              have h9 : firstE (claE (m : Int)) (ls.map clP) = 4 := by rw [← hI.2, firstE_stop hxq (by rw [h8]; decide), h8]
              rw [show hornP (m : Int) (ls.map clP) = .error (4) by unfold hornP; rw [if_pos h2, if_neg (by rw [List.length_map]; omega), h9, if_pos (by decide)]]
              exact ⟨rfl, hs'.none⟩
          · refine Ops.q (q_cmp rfl rfl (c_ne hset)) ?_
            refine Ops.to rfl ?_
            refine Cd.cond_t rfl ?_
            refine Cd.seq ?_
            refine Cd.region ?_
            refine Ops.q (q_bld [.slice none 0 0, .int .i64 0, .slice none 0 0] pls_32 zc_32 rfl rfl) ?_
            refine Ops.q (q_mv rfl) ?_
            refine Ops.stB [.slice none 0 0, .int .i64 0, .slice none 0 0] [.slice none 0 0, .int .i64 0, .slice none 0 0] sz_32 rfl rfl rfl (one rfl) (.there (.there (.there (.there (.there (.there (.there .here))))))) rfl rfl ?_
            refine Ops.q (q_asg rfl) ?_
            refine Ops.to rfl ?_
            refine Cd.rt (fn := Try.f26) [.agg [.slice none 0 0, .int .i64 0, .slice none 0 0].toArray, .int .i64 (setE (m : Int) xr)] (by with_reducible repeat (first | exact rq_here | apply rq_then | apply rq_block)) rfl ⟨⟨_, _, rfl, fun _ hs => run_loadN isA_32 sz_32 (fun o u hu => Sat.atB (.there (.there (.there (.there (.there (.there (.there .here))))))) (by rw [Nat.zero_add]; exact hu) hs)⟩, rfl, trivial⟩ ?_
            intro w' hs'
            have h8 : claE (m : Int) (xr, xt) = setE (m : Int) xr := claE_s (by show ¬ 16 < xr.length; omega) hset
            have h9 : firstE (claE (m : Int)) (ls.map clP) = setE (m : Int) xr := by rw [← hI.2, firstE_stop hxq (by rw [h8]; exact hset), h8]
            rw [show hornP (m : Int) (ls.map clP) = .error (setE (m : Int) xr) by unfold hornP; rw [if_pos h2, if_neg (by rw [List.length_map]; omega), h9, if_pos (by exact hset)]]
            exact ⟨rfl, hs'.none⟩
      · refine Ops.q (q_cmp rfl rfl (c_nlt (by omega))) ?_
        have h9 : firstE (claE (m : Int)) (ls.map clP) = 0 := by rw [← hI.2, firstE_end (by rw [List.length_map]; omega)]
        have h16 : ∀ x ∈ (ls.map clP), x.1.length ≤ 16 := fun x hx => claE_16 (firstE_zero h9 x hx)
        refine Ops.to rfl ?_
        refine Cd.seq ?_
        refine Cd.cond_f rfl ?_
        refine Cd.exitTo rfl ?_
        refine Cd.seq ?_
        refine Cd.region ?_
        refine Ops.cm (α := Option Addr × Nat) (v := fun _ => .tuple #[]) (A' := fun p => [blk b4 114 [.slice pa (((([] : List Prm) ++ (List.replicate (m + 1) (1 : Int)).map (setTh (onceP 0))) ++ (ls.take k).map (fun l : CL => setTh (onceP 0) (max 1 (l.1.2.length : Int)))).length) pc, .int .i64 1, .slice p.1 ((([] : List Syn) ++ selvesFrom 0 ((([] : List Prm) ++ (List.replicate (m + 1) (1 : Int)).map (setTh (onceP 0))) ++ (ls.take k).map (fun l : CL => setTh (onceP 0) (max 1 (l.1.2.length : Int)))).length).length) p.2], row pa pc 116 8 (((([] : List Prm) ++ (List.replicate (m + 1) (1 : Int)).map (setTh (onceP 0))) ++ (ls.take k).map (fun l : CL => setTh (onceP 0) (max 1 (l.1.2.length : Int)))).length) (((([] : List Prm) ++ (List.replicate (m + 1) (1 : Int)).map (setTh (onceP 0))) ++ (ls.take k).map (fun l : CL => setTh (onceP 0) (max 1 (l.1.2.length : Int)))).flatMap ePrm), row p.1 p.2 126 4 ((([] : List Syn) ++ selvesFrom 0 ((([] : List Prm) ++ (List.replicate (m + 1) (1 : Int)).map (setTh (onceP 0))) ++ (ls.take k).map (fun l : CL => setTh (onceP 0) (max 1 (l.1.2.length : Int)))).length).length) ((([] : List Syn) ++ selvesFrom 0 ((([] : List Prm) ++ (List.replicate (m + 1) (1 : Int)).map (setTh (onceP 0))) ++ (ls.take k).map (fun l : CL => setTh (onceP 0) (max 1 (l.1.2.length : Int)))).length).flatMap eSyn), blk pb5 116 (ePrm (onceP 0)), blk bb6 161 [.pointer (some ⟨b4, 0, none⟩)], blk b1 32 [.slice none 0 0, .int .i64 0, .slice none 0 0]]) en_61 rfl (fun w hs => selves_c _ _ _ _ _ ((([] : List Prm) ++ (List.replicate (m + 1) (1 : Int)).map (setTh (onceP 0))) ++ (ls.take k).map (fun l : CL => setTh (onceP 0) (max 1 (l.1.2.length : Int)))) _ ([] : List Syn) _ w _ (by simp only [List.length_append, List.length_map, List.length_take, List.length_cons, List.length_nil, List.length_replicate, selves_len]; omega) (by simp only [List.length_append, List.length_map, List.length_take, List.length_cons, List.length_nil, List.length_replicate, selves_len]; omega) (((((((hs.pull (.there (.there (.there (.there (.there .here)))))).pull (.there (.there (.there (.there (.there .here)))))).pull (.there (.there (.there (.there (.there .here)))))).pull (.there (.there (.there (.there (.there .here)))))).pull (.there (.there (.there (.there (.there .here)))))).pull (.there (.there (.there (.there (.there .here)))))))) ?_
        rintro ⟨a23, c24⟩
        refine Ops.to rfl ?_
        refine Cd.seq ?_
        refine Cd.seq ?_
        refine Cd.region ?_
        refine Ops.q (q_mv rfl) ?_
        refine Ops.q (q_len esz_52 rfl) ?_
        refine Ops.q (q_mv rfl) ?_
        refine Ops.to rfl ?_
        refine Cd.block ?_
        refine Cd.lp (σ := Nat × Option Addr × Nat) (fun s => s.1 ≤ ls.length) (fun s => [(0, .int .i64 (m : Int)), (4, .pointer (some ⟨b1, 0, none⟩)), (6, .pointer (some ⟨b4, 0, none⟩)), (72, .slice la ls.length lc), (73, .int .i64 (ls.length : Int)), (74, .int .i64 (s.1 : Int))]) (fun s => [blk b4 114 [.slice pa (((([] : List Prm) ++ (List.replicate (m + 1) (1 : Int)).map (setTh (onceP 0))) ++ (ls.take k).map (fun l : CL => setTh (onceP 0) (max 1 (l.1.2.length : Int)))).length) pc, .int .i64 1, .slice s.2.1 (((([] : List Syn) ++ selvesFrom 0 ((([] : List Prm) ++ (List.replicate (m + 1) (1 : Int)).map (setTh (onceP 0))) ++ (ls.take k).map (fun l : CL => setTh (onceP 0) (max 1 (l.1.2.length : Int)))).length) ++ clTo m (ls.map clP) s.1).length) s.2.2], row pa pc 116 8 (((([] : List Prm) ++ (List.replicate (m + 1) (1 : Int)).map (setTh (onceP 0))) ++ (ls.take k).map (fun l : CL => setTh (onceP 0) (max 1 (l.1.2.length : Int)))).length) (((([] : List Prm) ++ (List.replicate (m + 1) (1 : Int)).map (setTh (onceP 0))) ++ (ls.take k).map (fun l : CL => setTh (onceP 0) (max 1 (l.1.2.length : Int)))).flatMap ePrm), row s.2.1 s.2.2 126 4 (((([] : List Syn) ++ selvesFrom 0 ((([] : List Prm) ++ (List.replicate (m + 1) (1 : Int)).map (setTh (onceP 0))) ++ (ls.take k).map (fun l : CL => setTh (onceP 0) (max 1 (l.1.2.length : Int)))).length) ++ clTo m (ls.map clP) s.1).length) (((([] : List Syn) ++ selvesFrom 0 ((([] : List Prm) ++ (List.replicate (m + 1) (1 : Int)).map (setTh (onceP 0))) ++ (ls.take k).map (fun l : CL => setTh (onceP 0) (max 1 (l.1.2.length : Int)))).length) ++ clTo m (ls.map clP) s.1).flatMap eSyn), blk b1 32 [.slice none 0 0, .int .i64 0, .slice none 0 0]]) (fun s => ls.length - s.1) (0, a23, c24) (Nat.zero_le _) ⟨rfl, rfl, rfl, rfl, rfl, rfl, trivial⟩ (fun _ hs => by have h1 := ((((((hs.pull (.there (.there (.there (.there (.there .here)))))).pull (.there (.there (.there .here)))).pull (.there (.there (.there .here)))).pull (.there (.there (.there .here)))).pull (.there (.there (.there (.there .here))))).drop.pull (.there (.there (.there (.there .here))))).drop; dsimp only; rw [show ((([] : List Syn) ++ selvesFrom 0 ((([] : List Prm) ++ (List.replicate (m + 1) (1 : Int)).map (setTh (onceP 0))) ++ (ls.take k).map (fun l : CL => setTh (onceP 0) (max 1 (l.1.2.length : Int)))).length) ++ clTo m (ls.map clP) 0) = (([] : List Syn) ++ selvesFrom 0 ((([] : List Prm) ++ (List.replicate (m + 1) (1 : Int)).map (setTh (onceP 0))) ++ (ls.take k).map (fun l : CL => setTh (onceP 0) (max 1 (l.1.2.length : Int)))).length) from List.append_nil _]; exact h1) ?_
        rintro ⟨q, qa, qc⟩ hI
        dsimp only at hI
        change Cd _ _ _ _ _ _ _ [(0, .int .i64 (m : Int)), (4, .pointer (some ⟨b1, 0, none⟩)), (6, .pointer (some ⟨b4, 0, none⟩)), (72, .slice la ls.length lc), (73, .int .i64 (ls.length : Int)), (74, .int .i64 (q : Int))] ([blk b4 114 [.slice pa (((([] : List Prm) ++ (List.replicate (m + 1) (1 : Int)).map (setTh (onceP 0))) ++ (ls.take k).map (fun l : CL => setTh (onceP 0) (max 1 (l.1.2.length : Int)))).length) pc, .int .i64 1, .slice qa (((([] : List Syn) ++ selvesFrom 0 ((([] : List Prm) ++ (List.replicate (m + 1) (1 : Int)).map (setTh (onceP 0))) ++ (ls.take k).map (fun l : CL => setTh (onceP 0) (max 1 (l.1.2.length : Int)))).length) ++ clTo m (ls.map clP) q).length) qc], row pa pc 116 8 (((([] : List Prm) ++ (List.replicate (m + 1) (1 : Int)).map (setTh (onceP 0))) ++ (ls.take k).map (fun l : CL => setTh (onceP 0) (max 1 (l.1.2.length : Int)))).length) (((([] : List Prm) ++ (List.replicate (m + 1) (1 : Int)).map (setTh (onceP 0))) ++ (ls.take k).map (fun l : CL => setTh (onceP 0) (max 1 (l.1.2.length : Int)))).flatMap ePrm), row qa qc 126 4 (((([] : List Syn) ++ selvesFrom 0 ((([] : List Prm) ++ (List.replicate (m + 1) (1 : Int)).map (setTh (onceP 0))) ++ (ls.take k).map (fun l : CL => setTh (onceP 0) (max 1 (l.1.2.length : Int)))).length) ++ clTo m (ls.map clP) q).length) (((([] : List Syn) ++ selvesFrom 0 ((([] : List Prm) ++ (List.replicate (m + 1) (1 : Int)).map (setTh (onceP 0))) ++ (ls.take k).map (fun l : CL => setTh (onceP 0) (max 1 (l.1.2.length : Int)))).length) ++ clTo m (ls.map clP) q).flatMap eSyn), blk b1 32 [.slice none 0 0, .int .i64 0, .slice none 0 0]])
        refine Cd.seq ?_
        refine Cd.region ?_
        by_cases hq0 : (q : Int) < (ls.length : Int)
        · refine Ops.q (q_cmp rfl rfl (c_lt hq0)) ?_
          obtain ⟨⟨⟨⟨xa, xc⟩, xr⟩, xt⟩, hx⟩ : ∃ x, ls[q]? = some x := ⟨_, List.getElem?_eq_getElem (by omega)⟩
          have hxe : RoL w xa eInt xr := hL.2 _ (List.mem_iff_getElem?.2 ⟨q, hx⟩)
          skip
          have hxq : (ls.map clP)[q]? = some (xr, xt) := by rw [List.getElem?_map, hx]; rfl
          obtain ⟨lb, lo, rfl⟩ := RoL.pos hL.1 eCl_len hx
          have hcl := clTo_len (m := m) h16 q (by rw [List.length_map]; omega)
          have hxm := h16 _ (List.mem_iff_getElem?.2 ⟨q, hxq⟩)
          dsimp only at hxm
          refine Ops.to rfl ?_
          refine Cd.seq ?_
          refine Cd.cond_t rfl ?_
          refine Cd.skipTo rfl ?_
          refine Cd.seq ?_
          refine Cd.block ?_
          refine Cd.seq ?_
          refine Cd.region ?_
          refine Ops.q (q_mv rfl) ?_
          refine Ops.q (q_ix (k := q) esz_52 rfl rfl (by omega)) ?_
          refine Ops.q (q_ldRN [.slice xa xr.length xc, .int .i64 xt] isA_55 sz_55 rfl (fun j u hu => hL.1.at eCl_len hx hu)) ?_
          refine Ops.alc [.slice none 0 0, .int .i64 0] zc_55 ?_
          intro b25
          refine Ops.q (q_asg rfl) ?_
          refine Ops.stB [.slice xa xr.length xc, .int .i64 xt] [.slice xa xr.length xc, .int .i64 xt] sz_55 rfl rfl rfl (one rfl) .here rfl rfl ?_
          refine Ops.to rfl ?_
          refine Cd.seq ?_
          refine Cd.seq ?_
          refine Cd.region ?_
          refine Ops.q (q_fa fo_55_0 rfl) ?_
          refine Ops.q (q_ldB isA_26 rfl .here rfl) ?_
          refine Ops.q (q_len esz_26 rfl) ?_
          refine Ops.q (q_mv rfl) ?_
          refine Ops.to rfl ?_
          refine Cd.block ?_
          refine Cd.lp (σ := Nat × Option Addr × Nat) (fun s => s.1 ≤ xr.length) (fun s => [(0, .int .i64 (m : Int)), (4, .pointer (some ⟨b1, 0, none⟩)), (6, .pointer (some ⟨b4, 0, none⟩)), (72, .slice (some ⟨lb, lo, none⟩) ls.length lc), (73, .int .i64 (ls.length : Int)), (74, .int .i64 (q : Int)), (11, .int .i64 (q : Int)), (12, .pointer (some ⟨b25, 0, none⟩)), (80, .slice xa xr.length xc), (81, .int .i64 (xr.length : Int)), (82, .int .i64 (s.1 : Int))]) (fun s => [blk b4 114 [.slice pa (((([] : List Prm) ++ (List.replicate (m + 1) (1 : Int)).map (setTh (onceP 0))) ++ (ls.take k).map (fun l : CL => setTh (onceP 0) (max 1 (l.1.2.length : Int)))).length) pc, .int .i64 1, .slice s.2.1 ((((([] : List Syn) ++ selvesFrom 0 ((([] : List Prm) ++ (List.replicate (m + 1) (1 : Int)).map (setTh (onceP 0))) ++ (ls.take k).map (fun l : CL => setTh (onceP 0) (max 1 (l.1.2.length : Int)))).length) ++ clTo m (ls.map clP) q) ++ (xr.take s.1).map (fun t : Int => (⟨t, ((m + 1 + q : Nat) : Int), 1, 1⟩ : Syn))).length) s.2.2], row pa pc 116 8 (((([] : List Prm) ++ (List.replicate (m + 1) (1 : Int)).map (setTh (onceP 0))) ++ (ls.take k).map (fun l : CL => setTh (onceP 0) (max 1 (l.1.2.length : Int)))).length) (((([] : List Prm) ++ (List.replicate (m + 1) (1 : Int)).map (setTh (onceP 0))) ++ (ls.take k).map (fun l : CL => setTh (onceP 0) (max 1 (l.1.2.length : Int)))).flatMap ePrm), row s.2.1 s.2.2 126 4 ((((([] : List Syn) ++ selvesFrom 0 ((([] : List Prm) ++ (List.replicate (m + 1) (1 : Int)).map (setTh (onceP 0))) ++ (ls.take k).map (fun l : CL => setTh (onceP 0) (max 1 (l.1.2.length : Int)))).length) ++ clTo m (ls.map clP) q) ++ (xr.take s.1).map (fun t : Int => (⟨t, ((m + 1 + q : Nat) : Int), 1, 1⟩ : Syn))).length) ((((([] : List Syn) ++ selvesFrom 0 ((([] : List Prm) ++ (List.replicate (m + 1) (1 : Int)).map (setTh (onceP 0))) ++ (ls.take k).map (fun l : CL => setTh (onceP 0) (max 1 (l.1.2.length : Int)))).length) ++ clTo m (ls.map clP) q) ++ (xr.take s.1).map (fun t : Int => (⟨t, ((m + 1 + q : Nat) : Int), 1, 1⟩ : Syn))).flatMap eSyn), blk b25 55 [.slice xa xr.length xc, .int .i64 xt], blk b1 32 [.slice none 0 0, .int .i64 0, .slice none 0 0]]) (fun s => xr.length - s.1) (0, qa, qc) (Nat.zero_le _) ⟨rfl, rfl, rfl, rfl, rfl, rfl, rfl, rfl, rfl, rfl, rfl, trivial⟩ (fun _ hs => by have h1 := (((((hs.pull (.there (.there (.there (.there .here))))).pull (.there .here)).pull (.there (.there (.there (.there .here))))).pull (.there (.there (.there (.there .here))))).pull (.there (.there (.there (.there .here))))); dsimp only; rw [show (((([] : List Syn) ++ selvesFrom 0 ((([] : List Prm) ++ (List.replicate (m + 1) (1 : Int)).map (setTh (onceP 0))) ++ (ls.take k).map (fun l : CL => setTh (onceP 0) (max 1 (l.1.2.length : Int)))).length) ++ clTo m (ls.map clP) q) ++ (xr.take 0).map (fun t : Int => (⟨t, ((m + 1 + q : Nat) : Int), 1, 1⟩ : Syn))) = ((([] : List Syn) ++ selvesFrom 0 ((([] : List Prm) ++ (List.replicate (m + 1) (1 : Int)).map (setTh (onceP 0))) ++ (ls.take k).map (fun l : CL => setTh (onceP 0) (max 1 (l.1.2.length : Int)))).length) ++ clTo m (ls.map clP) q) from List.append_nil _]; exact h1) ?_
          rintro ⟨j, ra, rc⟩ hI
          dsimp only at hI
          change Cd _ _ _ _ _ _ _ [(0, .int .i64 (m : Int)), (4, .pointer (some ⟨b1, 0, none⟩)), (6, .pointer (some ⟨b4, 0, none⟩)), (72, .slice (some ⟨lb, lo, none⟩) ls.length lc), (73, .int .i64 (ls.length : Int)), (74, .int .i64 (q : Int)), (11, .int .i64 (q : Int)), (12, .pointer (some ⟨b25, 0, none⟩)), (80, .slice xa xr.length xc), (81, .int .i64 (xr.length : Int)), (82, .int .i64 (j : Int))] ([blk b4 114 [.slice pa (((([] : List Prm) ++ (List.replicate (m + 1) (1 : Int)).map (setTh (onceP 0))) ++ (ls.take k).map (fun l : CL => setTh (onceP 0) (max 1 (l.1.2.length : Int)))).length) pc, .int .i64 1, .slice ra ((((([] : List Syn) ++ selvesFrom 0 ((([] : List Prm) ++ (List.replicate (m + 1) (1 : Int)).map (setTh (onceP 0))) ++ (ls.take k).map (fun l : CL => setTh (onceP 0) (max 1 (l.1.2.length : Int)))).length) ++ clTo m (ls.map clP) q) ++ (xr.take j).map (fun t : Int => (⟨t, ((m + 1 + q : Nat) : Int), 1, 1⟩ : Syn))).length) rc], row pa pc 116 8 (((([] : List Prm) ++ (List.replicate (m + 1) (1 : Int)).map (setTh (onceP 0))) ++ (ls.take k).map (fun l : CL => setTh (onceP 0) (max 1 (l.1.2.length : Int)))).length) (((([] : List Prm) ++ (List.replicate (m + 1) (1 : Int)).map (setTh (onceP 0))) ++ (ls.take k).map (fun l : CL => setTh (onceP 0) (max 1 (l.1.2.length : Int)))).flatMap ePrm), row ra rc 126 4 ((((([] : List Syn) ++ selvesFrom 0 ((([] : List Prm) ++ (List.replicate (m + 1) (1 : Int)).map (setTh (onceP 0))) ++ (ls.take k).map (fun l : CL => setTh (onceP 0) (max 1 (l.1.2.length : Int)))).length) ++ clTo m (ls.map clP) q) ++ (xr.take j).map (fun t : Int => (⟨t, ((m + 1 + q : Nat) : Int), 1, 1⟩ : Syn))).length) ((((([] : List Syn) ++ selvesFrom 0 ((([] : List Prm) ++ (List.replicate (m + 1) (1 : Int)).map (setTh (onceP 0))) ++ (ls.take k).map (fun l : CL => setTh (onceP 0) (max 1 (l.1.2.length : Int)))).length) ++ clTo m (ls.map clP) q) ++ (xr.take j).map (fun t : Int => (⟨t, ((m + 1 + q : Nat) : Int), 1, 1⟩ : Syn))).flatMap eSyn), blk b25 55 [.slice xa xr.length xc, .int .i64 xt], blk b1 32 [.slice none 0 0, .int .i64 0, .slice none 0 0]])
          refine Cd.seq ?_
          refine Cd.region ?_
          by_cases hj : (j : Int) < (xr.length : Int)
          · refine Ops.q (q_cmp rfl rfl (c_lt hj)) ?_
            obtain ⟨x26, hx27⟩ : ∃ x, xr[j]? = some x := ⟨_, List.getElem?_eq_getElem (by omega)⟩
            obtain ⟨ab28, ao29, rfl⟩ := RoL.pos hxe eInt_len hx27
            refine Ops.to rfl ?_
            refine Cd.seq ?_
            refine Cd.cond_t rfl ?_
            refine Cd.skipTo rfl ?_
            refine Cd.seq ?_
            refine Cd.block ?_
            refine Cd.seq ?_
            refine Cd.region ?_
            refine Ops.q (q_ix (k := j) esz_26 rfl rfl (by omega)) ?_
            refine Ops.q (q_ldR isA_3 rfl (hxe.at0 eInt_len hx27 rfl)) ?_
            refine Ops.q (q_asg rfl) ?_
            refine Ops.to rfl ?_
            refine Cd.region ?_
            refine Ops.q (q_mv rfl) ?_
            refine Ops.q (q_mv rfl) ?_
            refine Ops.q (q_ar (v := ((m + 1 : Nat) : Int)) rfl rfl (a_inc (by omega))) ?_
            refine Ops.q (q_mv rfl) ?_
            refine Ops.q (q_ar (v := ((m + 1 + q : Nat) : Int)) rfl rfl ((by rw [a_add (by omega)]; rfl))) ?_
            refine Ops.cm (α := Option Addr × Nat) (v := fun _ => .tuple #[]) (A' := fun p => [blk b4 114 [.slice pa (((([] : List Prm) ++ (List.replicate (m + 1) (1 : Int)).map (setTh (onceP 0))) ++ (ls.take k).map (fun l : CL => setTh (onceP 0) (max 1 (l.1.2.length : Int)))).length) pc, .int .i64 1, .slice p.1 (((((([] : List Syn) ++ selvesFrom 0 ((([] : List Prm) ++ (List.replicate (m + 1) (1 : Int)).map (setTh (onceP 0))) ++ (ls.take k).map (fun l : CL => setTh (onceP 0) (max 1 (l.1.2.length : Int)))).length) ++ clTo m (ls.map clP) q) ++ (xr.take j).map (fun t : Int => (⟨t, ((m + 1 + q : Nat) : Int), 1, 1⟩ : Syn))) ++ [(⟨x26, ((m + 1 + q : Nat) : Int), 1, 1⟩ : Syn)]).length) p.2], row pa pc 116 8 (((([] : List Prm) ++ (List.replicate (m + 1) (1 : Int)).map (setTh (onceP 0))) ++ (ls.take k).map (fun l : CL => setTh (onceP 0) (max 1 (l.1.2.length : Int)))).length) (((([] : List Prm) ++ (List.replicate (m + 1) (1 : Int)).map (setTh (onceP 0))) ++ (ls.take k).map (fun l : CL => setTh (onceP 0) (max 1 (l.1.2.length : Int)))).flatMap ePrm), row p.1 p.2 126 4 (((((([] : List Syn) ++ selvesFrom 0 ((([] : List Prm) ++ (List.replicate (m + 1) (1 : Int)).map (setTh (onceP 0))) ++ (ls.take k).map (fun l : CL => setTh (onceP 0) (max 1 (l.1.2.length : Int)))).length) ++ clTo m (ls.map clP) q) ++ (xr.take j).map (fun t : Int => (⟨t, ((m + 1 + q : Nat) : Int), 1, 1⟩ : Syn))) ++ [(⟨x26, ((m + 1 + q : Nat) : Int), 1, 1⟩ : Syn)]).length) (((((([] : List Syn) ++ selvesFrom 0 ((([] : List Prm) ++ (List.replicate (m + 1) (1 : Int)).map (setTh (onceP 0))) ++ (ls.take k).map (fun l : CL => setTh (onceP 0) (max 1 (l.1.2.length : Int)))).length) ++ clTo m (ls.map clP) q) ++ (xr.take j).map (fun t : Int => (⟨t, ((m + 1 + q : Nat) : Int), 1, 1⟩ : Syn))) ++ [(⟨x26, ((m + 1 + q : Nat) : Int), 1, 1⟩ : Syn)]).flatMap eSyn), blk b25 55 [.slice (some ⟨ab28, ao29, none⟩) xr.length xc, .int .i64 xt], blk b1 32 [.slice none 0 0, .int .i64 0, .slice none 0 0]]) en_50 rfl (fun w hs => join_c _ _ _ _ _ ((([] : List Prm) ++ (List.replicate (m + 1) (1 : Int)).map (setTh (onceP 0))) ++ (ls.take k).map (fun l : CL => setTh (onceP 0) (max 1 (l.1.2.length : Int)))) _ (((([] : List Syn) ++ selvesFrom 0 ((([] : List Prm) ++ (List.replicate (m + 1) (1 : Int)).map (setTh (onceP 0))) ++ (ls.take k).map (fun l : CL => setTh (onceP 0) (max 1 (l.1.2.length : Int)))).length) ++ clTo m (ls.map clP) q) ++ (xr.take j).map (fun t : Int => (⟨t, ((m + 1 + q : Nat) : Int), 1, 1⟩ : Syn))) x26 ((m + 1 + q : Nat) : Int) 1 1 _ w _ (by simp only [List.length_append, List.length_map, List.length_take, List.length_cons, List.length_nil, List.length_replicate, selves_len]; omega) ((((((hs.pull (.there (.there (.there (.there .here))))).pull (.there (.there (.there (.there .here))))).pull (.there (.there (.there (.there .here))))).pull (.there (.there (.there (.there .here))))).pull (.there (.there (.there (.there .here))))))) ?_
            rintro ⟨a30, c31⟩
            refine Ops.to rfl ?_
            refine Cd.region ?_
            refine Ops.q (q_ar rfl rfl (a_inc (by omega))) ?_
            refine Ops.q (q_mv rfl) ?_
            refine Ops.rnd ((j + 1, a30, c31)) rfl (by dsimp only; exact (by omega)) (by dsimp only; omega) ⟨rfl, rfl, rfl, rfl, rfl, rfl, rfl, rfl, rfl, rfl, rfl, trivial⟩ (fun _ hs => by have h1 := (((((hs.pull (.there (.there (.there (.there .here))))).pull (.there (.there (.there (.there .here))))).pull (.there (.there (.there (.there .here))))).pull (.there (.there (.there (.there .here))))).pull (.there (.there (.there (.there .here))))); dsimp only; rw [mapT _ hx27, ← List.append_assoc]; exact h1) 
          · refine Ops.q (q_cmp rfl rfl (c_nlt (by omega))) ?_
            refine Ops.to rfl ?_
            refine Cd.seq ?_
            refine Cd.cond_f rfl ?_
            refine Cd.exitTo rfl ?_
            refine Cd.seq ?_
            refine Cd.seq ?_
            refine Cd.region ?_
            refine Ops.q (q_fa fo_55_0 rfl) ?_
            refine Ops.q (q_ldB isA_26 rfl (.there (.there (.there .here))) rfl) ?_
            refine Ops.q (q_len esz_26 rfl) ?_
            by_cases hemp : (xr.length : Int) = 0
            · refine Ops.q (q_cmp rfl rfl (c_eq hemp)) ?_
              refine Ops.to rfl ?_
              refine Cd.cond_t rfl ?_
              refine Cd.region ?_
              refine Ops.q (q_mv rfl) ?_
              refine Ops.q (q_ar (v := ((m + 1 : Nat) : Int)) rfl rfl (a_inc (by omega))) ?_
              refine Ops.q (q_mv rfl) ?_
              refine Ops.q (q_ar (v := ((m + 1 + q : Nat) : Int)) rfl rfl ((by rw [a_add (by omega)]; rfl))) ?_
              refine Ops.cm (α := Option Addr × Nat) (v := fun _ => .tuple #[]) (A' := fun p => [blk b4 114 [.slice pa (((([] : List Prm) ++ (List.replicate (m + 1) (1 : Int)).map (setTh (onceP 0))) ++ (ls.take k).map (fun l : CL => setTh (onceP 0) (max 1 (l.1.2.length : Int)))).length) pc, .int .i64 1, .slice p.1 (((((([] : List Syn) ++ selvesFrom 0 ((([] : List Prm) ++ (List.replicate (m + 1) (1 : Int)).map (setTh (onceP 0))) ++ (ls.take k).map (fun l : CL => setTh (onceP 0) (max 1 (l.1.2.length : Int)))).length) ++ clTo m (ls.map clP) q) ++ (xr.take j).map (fun t : Int => (⟨t, ((m + 1 + q : Nat) : Int), 1, 1⟩ : Syn))) ++ [(⟨-1 - 0, ((m + 1 + q : Nat) : Int), 1, 1⟩ : Syn)]).length) p.2], row pa pc 116 8 (((([] : List Prm) ++ (List.replicate (m + 1) (1 : Int)).map (setTh (onceP 0))) ++ (ls.take k).map (fun l : CL => setTh (onceP 0) (max 1 (l.1.2.length : Int)))).length) (((([] : List Prm) ++ (List.replicate (m + 1) (1 : Int)).map (setTh (onceP 0))) ++ (ls.take k).map (fun l : CL => setTh (onceP 0) (max 1 (l.1.2.length : Int)))).flatMap ePrm), row p.1 p.2 126 4 (((((([] : List Syn) ++ selvesFrom 0 ((([] : List Prm) ++ (List.replicate (m + 1) (1 : Int)).map (setTh (onceP 0))) ++ (ls.take k).map (fun l : CL => setTh (onceP 0) (max 1 (l.1.2.length : Int)))).length) ++ clTo m (ls.map clP) q) ++ (xr.take j).map (fun t : Int => (⟨t, ((m + 1 + q : Nat) : Int), 1, 1⟩ : Syn))) ++ [(⟨-1 - 0, ((m + 1 + q : Nat) : Int), 1, 1⟩ : Syn)]).length) (((((([] : List Syn) ++ selvesFrom 0 ((([] : List Prm) ++ (List.replicate (m + 1) (1 : Int)).map (setTh (onceP 0))) ++ (ls.take k).map (fun l : CL => setTh (onceP 0) (max 1 (l.1.2.length : Int)))).length) ++ clTo m (ls.map clP) q) ++ (xr.take j).map (fun t : Int => (⟨t, ((m + 1 + q : Nat) : Int), 1, 1⟩ : Syn))) ++ [(⟨-1 - 0, ((m + 1 + q : Nat) : Int), 1, 1⟩ : Syn)]).flatMap eSyn), blk b25 55 [.slice xa xr.length xc, .int .i64 xt], blk b1 32 [.slice none 0 0, .int .i64 0, .slice none 0 0]]) en_51 rfl (fun w hs => feed_c _ _ _ _ _ ((([] : List Prm) ++ (List.replicate (m + 1) (1 : Int)).map (setTh (onceP 0))) ++ (ls.take k).map (fun l : CL => setTh (onceP 0) (max 1 (l.1.2.length : Int)))) _ (((([] : List Syn) ++ selvesFrom 0 ((([] : List Prm) ++ (List.replicate (m + 1) (1 : Int)).map (setTh (onceP 0))) ++ (ls.take k).map (fun l : CL => setTh (onceP 0) (max 1 (l.1.2.length : Int)))).length) ++ clTo m (ls.map clP) q) ++ (xr.take j).map (fun t : Int => (⟨t, ((m + 1 + q : Nat) : Int), 1, 1⟩ : Syn))) 0 ((m + 1 + q : Nat) : Int) 1 1 _ w _ (by simp only [List.length_append, List.length_map, List.length_take, List.length_cons, List.length_nil, List.length_replicate, selves_len]; omega) (by omega) ((((((hs.pull (.there (.there (.there (.there .here))))).pull (.there (.there (.there (.there .here))))).pull (.there (.there (.there (.there .here))))).pull (.there (.there (.there (.there .here))))).pull (.there (.there (.there (.there .here))))))) ?_
              rintro ⟨a32, c33⟩
              refine Ops.to rfl ?_
              refine Cd.seq ?_
              refine Cd.region ?_
              refine Ops.q (q_fa fo_55_1 rfl) ?_
              refine Ops.q (q_ldB isA_3 rfl (.there (.there (.there .here))) rfl) ?_
              refine Ops.q (q_asg rfl) ?_
              refine Ops.to rfl ?_
              refine Cd.seq ?_
              refine Cd.seq ?_
              refine Cd.region ?_
              refine Ops.q (q_mv rfl) ?_
              by_cases h34 : xt < 0
              · refine Ops.q (q_cmp rfl rfl (c_lt h34)) ?_
                have hxt := h34
                refine Ops.to rfl ?_
                refine Cd.cond_t rfl ?_
                refine Cd.region ?_
                refine Ops.q (q_mv rfl) ?_
                refine Ops.q (q_asg rfl) ?_
                refine Ops.to rfl ?_
                refine Cd.region ?_
                refine Ops.q (q_mv rfl) ?_
                refine Ops.q (q_ar (v := ((m + 1 : Nat) : Int)) rfl rfl (a_inc (by omega))) ?_
                refine Ops.q (q_mv rfl) ?_
                refine Ops.q (q_ar (v := ((m + 1 + q : Nat) : Int)) rfl rfl ((by rw [a_add (by omega)]; rfl))) ?_
                refine Ops.q (q_mv rfl) ?_
                refine Ops.cm (α := Option Addr × Nat) (v := fun _ => .tuple #[]) (A' := fun p => [blk b4 114 [.slice pa (((([] : List Prm) ++ (List.replicate (m + 1) (1 : Int)).map (setTh (onceP 0))) ++ (ls.take k).map (fun l : CL => setTh (onceP 0) (max 1 (l.1.2.length : Int)))).length) pc, .int .i64 1, .slice p.1 ((((((([] : List Syn) ++ selvesFrom 0 ((([] : List Prm) ++ (List.replicate (m + 1) (1 : Int)).map (setTh (onceP 0))) ++ (ls.take k).map (fun l : CL => setTh (onceP 0) (max 1 (l.1.2.length : Int)))).length) ++ clTo m (ls.map clP) q) ++ (xr.take j).map (fun t : Int => (⟨t, ((m + 1 + q : Nat) : Int), 1, 1⟩ : Syn))) ++ [(⟨-1 - 0, ((m + 1 + q : Nat) : Int), 1, 1⟩ : Syn)]) ++ [(⟨((m + 1 + q : Nat) : Int), (m : Int), 1, 1⟩ : Syn)]).length) p.2], row pa pc 116 8 (((([] : List Prm) ++ (List.replicate (m + 1) (1 : Int)).map (setTh (onceP 0))) ++ (ls.take k).map (fun l : CL => setTh (onceP 0) (max 1 (l.1.2.length : Int)))).length) (((([] : List Prm) ++ (List.replicate (m + 1) (1 : Int)).map (setTh (onceP 0))) ++ (ls.take k).map (fun l : CL => setTh (onceP 0) (max 1 (l.1.2.length : Int)))).flatMap ePrm), row p.1 p.2 126 4 ((((((([] : List Syn) ++ selvesFrom 0 ((([] : List Prm) ++ (List.replicate (m + 1) (1 : Int)).map (setTh (onceP 0))) ++ (ls.take k).map (fun l : CL => setTh (onceP 0) (max 1 (l.1.2.length : Int)))).length) ++ clTo m (ls.map clP) q) ++ (xr.take j).map (fun t : Int => (⟨t, ((m + 1 + q : Nat) : Int), 1, 1⟩ : Syn))) ++ [(⟨-1 - 0, ((m + 1 + q : Nat) : Int), 1, 1⟩ : Syn)]) ++ [(⟨((m + 1 + q : Nat) : Int), (m : Int), 1, 1⟩ : Syn)]).length) ((((((([] : List Syn) ++ selvesFrom 0 ((([] : List Prm) ++ (List.replicate (m + 1) (1 : Int)).map (setTh (onceP 0))) ++ (ls.take k).map (fun l : CL => setTh (onceP 0) (max 1 (l.1.2.length : Int)))).length) ++ clTo m (ls.map clP) q) ++ (xr.take j).map (fun t : Int => (⟨t, ((m + 1 + q : Nat) : Int), 1, 1⟩ : Syn))) ++ [(⟨-1 - 0, ((m + 1 + q : Nat) : Int), 1, 1⟩ : Syn)]) ++ [(⟨((m + 1 + q : Nat) : Int), (m : Int), 1, 1⟩ : Syn)]).flatMap eSyn), blk b25 55 [.slice xa xr.length xc, .int .i64 xt], blk b1 32 [.slice none 0 0, .int .i64 0, .slice none 0 0]]) en_50 rfl (fun w hs => join_c _ _ _ _ _ ((([] : List Prm) ++ (List.replicate (m + 1) (1 : Int)).map (setTh (onceP 0))) ++ (ls.take k).map (fun l : CL => setTh (onceP 0) (max 1 (l.1.2.length : Int)))) _ ((((([] : List Syn) ++ selvesFrom 0 ((([] : List Prm) ++ (List.replicate (m + 1) (1 : Int)).map (setTh (onceP 0))) ++ (ls.take k).map (fun l : CL => setTh (onceP 0) (max 1 (l.1.2.length : Int)))).length) ++ clTo m (ls.map clP) q) ++ (xr.take j).map (fun t : Int => (⟨t, ((m + 1 + q : Nat) : Int), 1, 1⟩ : Syn))) ++ [(⟨-1 - 0, ((m + 1 + q : Nat) : Int), 1, 1⟩ : Syn)]) ((m + 1 + q : Nat) : Int) (m : Int) 1 1 _ w _ (by simp only [List.length_append, List.length_map, List.length_take, List.length_cons, List.length_nil, List.length_replicate, selves_len]; omega) ((((((hs.pull (.there (.there (.there (.there .here))))).pull (.there (.there (.there (.there .here))))).pull (.there (.there (.there (.there .here))))).pull (.there (.there (.there (.there .here))))).pull (.there (.there (.there (.there .here))))))) ?_
                rintro ⟨a35, c36⟩
                refine Ops.to rfl ?_
                refine Cd.region ?_
                refine Ops.q (q_ar rfl rfl (a_inc (by omega))) ?_
                refine Ops.q (q_mv rfl) ?_
                refine Ops.rnd ((q + 1, a35, c36)) rfl (by dsimp only; exact (by omega)) (by dsimp only; omega) ⟨rfl, rfl, rfl, rfl, rfl, rfl, trivial⟩ (fun _ hs => by have h1 := (((((hs.pull (.there (.there (.there (.there .here))))).pull (.there (.there (.there .here)))).pull (.there (.there (.there .here)))).pull (.there (.there (.there .here)))).pull (.there (.there (.there (.there .here))))).drop; rw [List.take_of_length_le (show xr.length ≤ j by omega)] at h1; dsimp only; rw [cl_stepE hxq (by omega) (by rw [if_pos (by omega)])]; exact h1) 
              · refine Ops.q (q_cmp rfl rfl (c_nlt (by omega))) ?_
                have hxt := h34
                refine Ops.to rfl ?_
                refine Cd.cond_f rfl ?_
                refine Cd.skipTo rfl ?_
                refine Cd.region ?_
                refine Ops.q (q_mv rfl) ?_
                refine Ops.q (q_ar (v := ((m + 1 : Nat) : Int)) rfl rfl (a_inc (by omega))) ?_
                refine Ops.q (q_mv rfl) ?_
                refine Ops.q (q_ar (v := ((m + 1 + q : Nat) : Int)) rfl rfl ((by rw [a_add (by omega)]; rfl))) ?_
                refine Ops.q (q_mv rfl) ?_
                refine Ops.cm (α := Option Addr × Nat) (v := fun _ => .tuple #[]) (A' := fun p => [blk b4 114 [.slice pa (((([] : List Prm) ++ (List.replicate (m + 1) (1 : Int)).map (setTh (onceP 0))) ++ (ls.take k).map (fun l : CL => setTh (onceP 0) (max 1 (l.1.2.length : Int)))).length) pc, .int .i64 1, .slice p.1 ((((((([] : List Syn) ++ selvesFrom 0 ((([] : List Prm) ++ (List.replicate (m + 1) (1 : Int)).map (setTh (onceP 0))) ++ (ls.take k).map (fun l : CL => setTh (onceP 0) (max 1 (l.1.2.length : Int)))).length) ++ clTo m (ls.map clP) q) ++ (xr.take j).map (fun t : Int => (⟨t, ((m + 1 + q : Nat) : Int), 1, 1⟩ : Syn))) ++ [(⟨-1 - 0, ((m + 1 + q : Nat) : Int), 1, 1⟩ : Syn)]) ++ [(⟨((m + 1 + q : Nat) : Int), xt, 1, 1⟩ : Syn)]).length) p.2], row pa pc 116 8 (((([] : List Prm) ++ (List.replicate (m + 1) (1 : Int)).map (setTh (onceP 0))) ++ (ls.take k).map (fun l : CL => setTh (onceP 0) (max 1 (l.1.2.length : Int)))).length) (((([] : List Prm) ++ (List.replicate (m + 1) (1 : Int)).map (setTh (onceP 0))) ++ (ls.take k).map (fun l : CL => setTh (onceP 0) (max 1 (l.1.2.length : Int)))).flatMap ePrm), row p.1 p.2 126 4 ((((((([] : List Syn) ++ selvesFrom 0 ((([] : List Prm) ++ (List.replicate (m + 1) (1 : Int)).map (setTh (onceP 0))) ++ (ls.take k).map (fun l : CL => setTh (onceP 0) (max 1 (l.1.2.length : Int)))).length) ++ clTo m (ls.map clP) q) ++ (xr.take j).map (fun t : Int => (⟨t, ((m + 1 + q : Nat) : Int), 1, 1⟩ : Syn))) ++ [(⟨-1 - 0, ((m + 1 + q : Nat) : Int), 1, 1⟩ : Syn)]) ++ [(⟨((m + 1 + q : Nat) : Int), xt, 1, 1⟩ : Syn)]).length) ((((((([] : List Syn) ++ selvesFrom 0 ((([] : List Prm) ++ (List.replicate (m + 1) (1 : Int)).map (setTh (onceP 0))) ++ (ls.take k).map (fun l : CL => setTh (onceP 0) (max 1 (l.1.2.length : Int)))).length) ++ clTo m (ls.map clP) q) ++ (xr.take j).map (fun t : Int => (⟨t, ((m + 1 + q : Nat) : Int), 1, 1⟩ : Syn))) ++ [(⟨-1 - 0, ((m + 1 + q : Nat) : Int), 1, 1⟩ : Syn)]) ++ [(⟨((m + 1 + q : Nat) : Int), xt, 1, 1⟩ : Syn)]).flatMap eSyn), blk b25 55 [.slice xa xr.length xc, .int .i64 xt], blk b1 32 [.slice none 0 0, .int .i64 0, .slice none 0 0]]) en_50 rfl (fun w hs => join_c _ _ _ _ _ ((([] : List Prm) ++ (List.replicate (m + 1) (1 : Int)).map (setTh (onceP 0))) ++ (ls.take k).map (fun l : CL => setTh (onceP 0) (max 1 (l.1.2.length : Int)))) _ ((((([] : List Syn) ++ selvesFrom 0 ((([] : List Prm) ++ (List.replicate (m + 1) (1 : Int)).map (setTh (onceP 0))) ++ (ls.take k).map (fun l : CL => setTh (onceP 0) (max 1 (l.1.2.length : Int)))).length) ++ clTo m (ls.map clP) q) ++ (xr.take j).map (fun t : Int => (⟨t, ((m + 1 + q : Nat) : Int), 1, 1⟩ : Syn))) ++ [(⟨-1 - 0, ((m + 1 + q : Nat) : Int), 1, 1⟩ : Syn)]) ((m + 1 + q : Nat) : Int) xt 1 1 _ w _ (by simp only [List.length_append, List.length_map, List.length_take, List.length_cons, List.length_nil, List.length_replicate, selves_len]; omega) ((((((hs.pull (.there (.there (.there (.there .here))))).pull (.there (.there (.there (.there .here))))).pull (.there (.there (.there (.there .here))))).pull (.there (.there (.there (.there .here))))).pull (.there (.there (.there (.there .here))))))) ?_
                rintro ⟨a37, c38⟩
                refine Ops.to rfl ?_
                refine Cd.region ?_
                refine Ops.q (q_ar rfl rfl (a_inc (by omega))) ?_
                refine Ops.q (q_mv rfl) ?_
                refine Ops.rnd ((q + 1, a37, c38)) rfl (by dsimp only; exact (by omega)) (by dsimp only; omega) ⟨rfl, rfl, rfl, rfl, rfl, rfl, trivial⟩ (fun _ hs => by have h1 := (((((hs.pull (.there (.there (.there (.there .here))))).pull (.there (.there (.there .here)))).pull (.there (.there (.there .here)))).pull (.there (.there (.there .here)))).pull (.there (.there (.there (.there .here))))).drop; rw [List.take_of_length_le (show xr.length ≤ j by omega)] at h1; dsimp only; rw [cl_stepE hxq (by omega) (by rw [if_neg (by omega)])]; exact h1) 
            · refine Ops.q (q_cmp rfl rfl (c_neq hemp)) ?_
              refine Ops.to rfl ?_
              refine Cd.cond_f rfl ?_
              refine Cd.skipTo rfl ?_
              refine Cd.seq ?_
              refine Cd.region ?_
              refine Ops.q (q_fa fo_55_1 rfl) ?_
              refine Ops.q (q_ldB isA_3 rfl (.there (.there (.there .here))) rfl) ?_
              refine Ops.q (q_asg rfl) ?_
              refine Ops.to rfl ?_
              refine Cd.seq ?_
              refine Cd.seq ?_
              refine Cd.region ?_
              refine Ops.q (q_mv rfl) ?_
              by_cases h39 : xt < 0
              · refine Ops.q (q_cmp rfl rfl (c_lt h39)) ?_
                have hxt := h39
                refine Ops.to rfl ?_
                refine Cd.cond_t rfl ?_
                refine Cd.region ?_
                refine Ops.q (q_mv rfl) ?_
                refine Ops.q (q_asg rfl) ?_
                refine Ops.to rfl ?_
                refine Cd.region ?_
                refine Ops.q (q_mv rfl) ?_
                refine Ops.q (q_ar (v := ((m + 1 : Nat) : Int)) rfl rfl (a_inc (by omega))) ?_
                refine Ops.q (q_mv rfl) ?_
                refine Ops.q (q_ar (v := ((m + 1 + q : Nat) : Int)) rfl rfl ((by rw [a_add (by omega)]; rfl))) ?_
                refine Ops.q (q_mv rfl) ?_
                refine Ops.cm (α := Option Addr × Nat) (v := fun _ => .tuple #[]) (A' := fun p => [blk b4 114 [.slice pa (((([] : List Prm) ++ (List.replicate (m + 1) (1 : Int)).map (setTh (onceP 0))) ++ (ls.take k).map (fun l : CL => setTh (onceP 0) (max 1 (l.1.2.length : Int)))).length) pc, .int .i64 1, .slice p.1 (((((([] : List Syn) ++ selvesFrom 0 ((([] : List Prm) ++ (List.replicate (m + 1) (1 : Int)).map (setTh (onceP 0))) ++ (ls.take k).map (fun l : CL => setTh (onceP 0) (max 1 (l.1.2.length : Int)))).length) ++ clTo m (ls.map clP) q) ++ (xr.take j).map (fun t : Int => (⟨t, ((m + 1 + q : Nat) : Int), 1, 1⟩ : Syn))) ++ [(⟨((m + 1 + q : Nat) : Int), (m : Int), 1, 1⟩ : Syn)]).length) p.2], row pa pc 116 8 (((([] : List Prm) ++ (List.replicate (m + 1) (1 : Int)).map (setTh (onceP 0))) ++ (ls.take k).map (fun l : CL => setTh (onceP 0) (max 1 (l.1.2.length : Int)))).length) (((([] : List Prm) ++ (List.replicate (m + 1) (1 : Int)).map (setTh (onceP 0))) ++ (ls.take k).map (fun l : CL => setTh (onceP 0) (max 1 (l.1.2.length : Int)))).flatMap ePrm), row p.1 p.2 126 4 (((((([] : List Syn) ++ selvesFrom 0 ((([] : List Prm) ++ (List.replicate (m + 1) (1 : Int)).map (setTh (onceP 0))) ++ (ls.take k).map (fun l : CL => setTh (onceP 0) (max 1 (l.1.2.length : Int)))).length) ++ clTo m (ls.map clP) q) ++ (xr.take j).map (fun t : Int => (⟨t, ((m + 1 + q : Nat) : Int), 1, 1⟩ : Syn))) ++ [(⟨((m + 1 + q : Nat) : Int), (m : Int), 1, 1⟩ : Syn)]).length) (((((([] : List Syn) ++ selvesFrom 0 ((([] : List Prm) ++ (List.replicate (m + 1) (1 : Int)).map (setTh (onceP 0))) ++ (ls.take k).map (fun l : CL => setTh (onceP 0) (max 1 (l.1.2.length : Int)))).length) ++ clTo m (ls.map clP) q) ++ (xr.take j).map (fun t : Int => (⟨t, ((m + 1 + q : Nat) : Int), 1, 1⟩ : Syn))) ++ [(⟨((m + 1 + q : Nat) : Int), (m : Int), 1, 1⟩ : Syn)]).flatMap eSyn), blk b25 55 [.slice xa xr.length xc, .int .i64 xt], blk b1 32 [.slice none 0 0, .int .i64 0, .slice none 0 0]]) en_50 rfl (fun w hs => join_c _ _ _ _ _ ((([] : List Prm) ++ (List.replicate (m + 1) (1 : Int)).map (setTh (onceP 0))) ++ (ls.take k).map (fun l : CL => setTh (onceP 0) (max 1 (l.1.2.length : Int)))) _ (((([] : List Syn) ++ selvesFrom 0 ((([] : List Prm) ++ (List.replicate (m + 1) (1 : Int)).map (setTh (onceP 0))) ++ (ls.take k).map (fun l : CL => setTh (onceP 0) (max 1 (l.1.2.length : Int)))).length) ++ clTo m (ls.map clP) q) ++ (xr.take j).map (fun t : Int => (⟨t, ((m + 1 + q : Nat) : Int), 1, 1⟩ : Syn))) ((m + 1 + q : Nat) : Int) (m : Int) 1 1 _ w _ (by simp only [List.length_append, List.length_map, List.length_take, List.length_cons, List.length_nil, List.length_replicate, selves_len]; omega) ((((((hs.pull (.there (.there (.there (.there .here))))).pull (.there (.there (.there (.there .here))))).pull (.there (.there (.there (.there .here))))).pull (.there (.there (.there (.there .here))))).pull (.there (.there (.there (.there .here))))))) ?_
                rintro ⟨a40, c41⟩
                refine Ops.to rfl ?_
                refine Cd.region ?_
                refine Ops.q (q_ar rfl rfl (a_inc (by omega))) ?_
                refine Ops.q (q_mv rfl) ?_
                refine Ops.rnd ((q + 1, a40, c41)) rfl (by dsimp only; exact (by omega)) (by dsimp only; omega) ⟨rfl, rfl, rfl, rfl, rfl, rfl, trivial⟩ (fun _ hs => by have h1 := (((((hs.pull (.there (.there (.there (.there .here))))).pull (.there (.there (.there .here)))).pull (.there (.there (.there .here)))).pull (.there (.there (.there .here)))).pull (.there (.there (.there (.there .here))))).drop; rw [List.take_of_length_le (show xr.length ≤ j by omega)] at h1; dsimp only; rw [cl_stepN hxq (by omega) (by rw [if_pos (by omega)])]; exact h1) 
              · refine Ops.q (q_cmp rfl rfl (c_nlt (by omega))) ?_
                have hxt := h39
                refine Ops.to rfl ?_
                refine Cd.cond_f rfl ?_
                refine Cd.skipTo rfl ?_
                refine Cd.region ?_
                refine Ops.q (q_mv rfl) ?_
                refine Ops.q (q_ar (v := ((m + 1 : Nat) : Int)) rfl rfl (a_inc (by omega))) ?_
                refine Ops.q (q_mv rfl) ?_
                refine Ops.q (q_ar (v := ((m + 1 + q : Nat) : Int)) rfl rfl ((by rw [a_add (by omega)]; rfl))) ?_
                refine Ops.q (q_mv rfl) ?_
                refine Ops.cm (α := Option Addr × Nat) (v := fun _ => .tuple #[]) (A' := fun p => [blk b4 114 [.slice pa (((([] : List Prm) ++ (List.replicate (m + 1) (1 : Int)).map (setTh (onceP 0))) ++ (ls.take k).map (fun l : CL => setTh (onceP 0) (max 1 (l.1.2.length : Int)))).length) pc, .int .i64 1, .slice p.1 (((((([] : List Syn) ++ selvesFrom 0 ((([] : List Prm) ++ (List.replicate (m + 1) (1 : Int)).map (setTh (onceP 0))) ++ (ls.take k).map (fun l : CL => setTh (onceP 0) (max 1 (l.1.2.length : Int)))).length) ++ clTo m (ls.map clP) q) ++ (xr.take j).map (fun t : Int => (⟨t, ((m + 1 + q : Nat) : Int), 1, 1⟩ : Syn))) ++ [(⟨((m + 1 + q : Nat) : Int), xt, 1, 1⟩ : Syn)]).length) p.2], row pa pc 116 8 (((([] : List Prm) ++ (List.replicate (m + 1) (1 : Int)).map (setTh (onceP 0))) ++ (ls.take k).map (fun l : CL => setTh (onceP 0) (max 1 (l.1.2.length : Int)))).length) (((([] : List Prm) ++ (List.replicate (m + 1) (1 : Int)).map (setTh (onceP 0))) ++ (ls.take k).map (fun l : CL => setTh (onceP 0) (max 1 (l.1.2.length : Int)))).flatMap ePrm), row p.1 p.2 126 4 (((((([] : List Syn) ++ selvesFrom 0 ((([] : List Prm) ++ (List.replicate (m + 1) (1 : Int)).map (setTh (onceP 0))) ++ (ls.take k).map (fun l : CL => setTh (onceP 0) (max 1 (l.1.2.length : Int)))).length) ++ clTo m (ls.map clP) q) ++ (xr.take j).map (fun t : Int => (⟨t, ((m + 1 + q : Nat) : Int), 1, 1⟩ : Syn))) ++ [(⟨((m + 1 + q : Nat) : Int), xt, 1, 1⟩ : Syn)]).length) (((((([] : List Syn) ++ selvesFrom 0 ((([] : List Prm) ++ (List.replicate (m + 1) (1 : Int)).map (setTh (onceP 0))) ++ (ls.take k).map (fun l : CL => setTh (onceP 0) (max 1 (l.1.2.length : Int)))).length) ++ clTo m (ls.map clP) q) ++ (xr.take j).map (fun t : Int => (⟨t, ((m + 1 + q : Nat) : Int), 1, 1⟩ : Syn))) ++ [(⟨((m + 1 + q : Nat) : Int), xt, 1, 1⟩ : Syn)]).flatMap eSyn), blk b25 55 [.slice xa xr.length xc, .int .i64 xt], blk b1 32 [.slice none 0 0, .int .i64 0, .slice none 0 0]]) en_50 rfl (fun w hs => join_c _ _ _ _ _ ((([] : List Prm) ++ (List.replicate (m + 1) (1 : Int)).map (setTh (onceP 0))) ++ (ls.take k).map (fun l : CL => setTh (onceP 0) (max 1 (l.1.2.length : Int)))) _ (((([] : List Syn) ++ selvesFrom 0 ((([] : List Prm) ++ (List.replicate (m + 1) (1 : Int)).map (setTh (onceP 0))) ++ (ls.take k).map (fun l : CL => setTh (onceP 0) (max 1 (l.1.2.length : Int)))).length) ++ clTo m (ls.map clP) q) ++ (xr.take j).map (fun t : Int => (⟨t, ((m + 1 + q : Nat) : Int), 1, 1⟩ : Syn))) ((m + 1 + q : Nat) : Int) xt 1 1 _ w _ (by simp only [List.length_append, List.length_map, List.length_take, List.length_cons, List.length_nil, List.length_replicate, selves_len]; omega) ((((((hs.pull (.there (.there (.there (.there .here))))).pull (.there (.there (.there (.there .here))))).pull (.there (.there (.there (.there .here))))).pull (.there (.there (.there (.there .here))))).pull (.there (.there (.there (.there .here))))))) ?_
                rintro ⟨a42, c43⟩
                refine Ops.to rfl ?_
                refine Cd.region ?_
                refine Ops.q (q_ar rfl rfl (a_inc (by omega))) ?_
                refine Ops.q (q_mv rfl) ?_
                refine Ops.rnd ((q + 1, a42, c43)) rfl (by dsimp only; exact (by omega)) (by dsimp only; omega) ⟨rfl, rfl, rfl, rfl, rfl, rfl, trivial⟩ (fun _ hs => by have h1 := (((((hs.pull (.there (.there (.there (.there .here))))).pull (.there (.there (.there .here)))).pull (.there (.there (.there .here)))).pull (.there (.there (.there .here)))).pull (.there (.there (.there (.there .here))))).drop; rw [List.take_of_length_le (show xr.length ≤ j by omega)] at h1; dsimp only; rw [cl_stepN hxq (by omega) (by rw [if_neg (by omega)])]; exact h1) 
        · refine Ops.q (q_cmp rfl rfl (c_nlt (by omega))) ?_
          refine Ops.to rfl ?_
          refine Cd.seq ?_
          refine Cd.cond_f rfl ?_
          refine Cd.exitTo rfl ?_
          refine Cd.seq ?_
          refine Cd.region ?_
          refine Ops.q (q_fa fo_114_0 rfl) ?_
          refine Ops.q (q_ldBN [.slice pa (((([] : List Prm) ++ (List.replicate (m + 1) (1 : Int)).map (setTh (onceP 0))) ++ (ls.take k).map (fun l : CL => setTh (onceP 0) (max 1 (l.1.2.length : Int)))).length) pc, .int .i64 1, .slice qa (((([] : List Syn) ++ selvesFrom 0 ((([] : List Prm) ++ (List.replicate (m + 1) (1 : Int)).map (setTh (onceP 0))) ++ (ls.take k).map (fun l : CL => setTh (onceP 0) (max 1 (l.1.2.length : Int)))).length) ++ clTo m (ls.map clP) q).length) qc] isA_32 sz_32 rfl .here rfl) ?_
          refine Ops.stB [.slice pa (((([] : List Prm) ++ (List.replicate (m + 1) (1 : Int)).map (setTh (onceP 0))) ++ (ls.take k).map (fun l : CL => setTh (onceP 0) (max 1 (l.1.2.length : Int)))).length) pc, .int .i64 1, .slice qa (((([] : List Syn) ++ selvesFrom 0 ((([] : List Prm) ++ (List.replicate (m + 1) (1 : Int)).map (setTh (onceP 0))) ++ (ls.take k).map (fun l : CL => setTh (onceP 0) (max 1 (l.1.2.length : Int)))).length) ++ clTo m (ls.map clP) q).length) qc] [.slice pa (((([] : List Prm) ++ (List.replicate (m + 1) (1 : Int)).map (setTh (onceP 0))) ++ (ls.take k).map (fun l : CL => setTh (onceP 0) (max 1 (l.1.2.length : Int)))).length) pc, .int .i64 1, .slice qa (((([] : List Syn) ++ selvesFrom 0 ((([] : List Prm) ++ (List.replicate (m + 1) (1 : Int)).map (setTh (onceP 0))) ++ (ls.take k).map (fun l : CL => setTh (onceP 0) (max 1 (l.1.2.length : Int)))).length) ++ clTo m (ls.map clP) q).length) qc] sz_32 rfl rfl rfl (one rfl) (.there (.there (.there .here))) rfl rfl ?_
          refine Ops.q (q_asg rfl) ?_
          refine Ops.to rfl ?_
          refine Cd.rt (fn := Try.f26) [.agg [.slice pa (((([] : List Prm) ++ (List.replicate (m + 1) (1 : Int)).map (setTh (onceP 0))) ++ (ls.take k).map (fun l : CL => setTh (onceP 0) (max 1 (l.1.2.length : Int)))).length) pc, .int .i64 1, .slice qa (((([] : List Syn) ++ selvesFrom 0 ((([] : List Prm) ++ (List.replicate (m + 1) (1 : Int)).map (setTh (onceP 0))) ++ (ls.take k).map (fun l : CL => setTh (onceP 0) (max 1 (l.1.2.length : Int)))).length) ++ clTo m (ls.map clP) q).length) qc].toArray, .int .i64 0] (by with_reducible repeat (first | exact rq_here | apply rq_then | apply rq_block)) rfl ⟨⟨_, _, rfl, fun _ hs => run_loadN isA_32 sz_32 (fun o u hu => Sat.atB (.there (.there (.there .here))) (by rw [Nat.zero_add]; exact hu) hs)⟩, rfl, trivial⟩ ?_
          intro w' hs'
          have hq : q = ls.length := by omega
          rw [hq, List.take_of_length_le (show ls.length ≤ k by omega)] at hs'
          have hP : hornP (m : Int) (ls.map clP) = .ok ⟨((([] : List Prm) ++ (List.replicate (m + 1) (1 : Int)).map (setTh (onceP 0))) ++ ls.map (fun l : CL => setTh (onceP 0) (max 1 (l.1.2.length : Int)))), 1, ((([] : List Syn) ++ selvesFrom 0 ((([] : List Prm) ++ (List.replicate (m + 1) (1 : Int)).map (setTh (onceP 0))) ++ ls.map (fun l : CL => setTh (onceP 0) (max 1 (l.1.2.length : Int)))).length) ++ clTo m (ls.map clP) ls.length)⟩ := by unfold hornP; rw [if_pos h2, if_neg (by rw [List.length_map]; omega), h9, if_neg (by decide)]; simp only [List.nil_append, List.length_append, List.length_map, List.length_replicate, List.map_replicate, List.map_map, Int.toNat_natCast]; rfl
          rw [hP]
          exact ⟨(pa, pc), (qa, qc), by rw [hq, List.take_of_length_le (show ls.length ≤ k by omega)]; rfl, ((((hs'.pull (.there (.there .here))).pull (.there (.there .here))).pull (.there (.there .here))).drop.pull (.there (.there .here))).drop⟩
  · refine Ops.cp en_57 rfl (fun w hs => dF (in_c _ _ _ w) h2) ?_
    refine Ops.q (q_not rfl) ?_
    refine Ops.q (q_asg rfl) ?_
    refine Ops.to rfl ?_
    refine Cd.cond_t rfl ?_
    refine Cd.seq ?_
    refine Cd.region ?_
    refine Ops.q (q_bld [.slice none 0 0, .int .i64 0, .slice none 0 0] pls_32 zc_32 rfl rfl) ?_
    refine Ops.stB [.slice none 0 0, .int .i64 0, .slice none 0 0] [.slice none 0 0, .int .i64 0, .slice none 0 0] sz_32 rfl rfl rfl (one rfl) .here rfl rfl ?_
    refine Ops.q (q_asg rfl) ?_
    refine Ops.to rfl ?_
    refine Cd.rt (fn := Try.f26) [.agg [.slice none 0 0, .int .i64 0, .slice none 0 0].toArray, .int .i64 3] (by with_reducible repeat (first | exact rq_here | apply rq_then | apply rq_block)) rfl ⟨⟨_, _, rfl, fun _ hs => run_loadN isA_32 sz_32 (fun o u hu => Sat.atB .here (by rw [Nat.zero_add]; exact hu) hs)⟩, rfl, trivial⟩ ?_
    intro w' hs'
    rw [show hornP n (ls.map clP) = .error 3 by unfold hornP; rw [if_neg h2]]
    exact ⟨rfl, hs'.none⟩
theorem rhorn_c (n : Int) (la : Option Addr) (lc : Nat) (ls : List CL) (w : World) (hL : RoCL w la ls) (hcap : ∀ l ∈ ls, l.1.2.length ≤ l.1.1.2) : Calls Try.prog 27 [.int .i64 n, .slice la ls.length lc].toArray w (RetR (hornP n (ls.map clP)) w) := by
  refine fstart Try.func27 rfl rfl (Sat.nil w) ?_
  refine Cd.seq ?_
  refine Cd.region ?_
  refine Ops.alc [.slice none 0 0, .int .i64 0, .slice none 0 0] zc_32 ?_
  intro b1
  refine Ops.q (q_asg rfl) ?_
  refine Ops.to rfl ?_
  refine Cd.seq ?_
  refine Cd.seq ?_
  refine Cd.region ?_
  refine Ops.q (q_mv rfl) ?_
  by_cases h2 : wi n 1 256
  · refine Ops.cp en_59 rfl (fun w hs => dT (rwithin_c _ _ _ w) h2) ?_
    refine Ops.q (q_not rfl) ?_
    refine Ops.to rfl ?_
    refine Cd.cond_f rfl ?_
    refine Cd.skipTo rfl ?_
    refine Cd.seq ?_
    refine Cd.seq ?_
    refine Cd.region ?_
    obtain ⟨m, rfl⟩ : ∃ j : Nat, n = (j : Int) := ⟨n.toNat, by unfold wi at h2; omega⟩
    have hm : 1 ≤ m ∧ m ≤ 256 := by unfold wi at h2; omega
    refine Ops.q (q_mv rfl) ?_
    refine Ops.q (q_len esz_50 rfl) ?_
    by_cases h3 : 512 < (ls.length : Int)
    · refine Ops.q (q_cmp rfl rfl (c_gt h3)) ?_
      refine Ops.to rfl ?_
      refine Cd.cond_t rfl ?_
      refine Cd.seq ?_
      refine Cd.region ?_
      refine Ops.q (q_bld [.slice none 0 0, .int .i64 0, .slice none 0 0] pls_32 zc_32 rfl rfl) ?_
      refine Ops.stB [.slice none 0 0, .int .i64 0, .slice none 0 0] [.slice none 0 0, .int .i64 0, .slice none 0 0] sz_32 rfl rfl rfl (one rfl) .here rfl rfl ?_
      refine Ops.q (q_asg rfl) ?_
      refine Ops.to rfl ?_
      refine Cd.rt (fn := Try.f27) [.agg [.slice none 0 0, .int .i64 0, .slice none 0 0].toArray, .int .i64 9] (by with_reducible repeat (first | exact rq_here | apply rq_then | apply rq_block)) rfl ⟨⟨_, _, rfl, fun _ hs => run_loadN isA_32 sz_32 (fun o u hu => Sat.atB .here (by rw [Nat.zero_add]; exact hu) hs)⟩, rfl, trivial⟩ ?_
      intro w' hs'
      rw [show hornP (m : Int) (ls.map clP) = .error 9 by unfold hornP; rw [if_pos h2, if_pos (by rw [List.length_map]; omega)]]
      exact ⟨rfl, hs'.none⟩
    · refine Ops.q (q_cmp rfl rfl (c_ngt (by omega))) ?_
      refine Ops.to rfl ?_
      refine Cd.cond_f rfl ?_
      refine Cd.skipTo rfl ?_
      refine Cd.seq ?_
      refine Cd.region ?_
      refine Ops.q (q_bld [.slice none 0 0, .int .i64 1, .slice none 0 0] pls_32 zc_32 rfl rfl) ?_
      refine Ops.alc [.slice none 0 0, .int .i64 0, .slice none 0 0] zc_32 ?_
      intro b4
      refine Ops.stB [.slice none 0 0, .int .i64 1, .slice none 0 0] [.slice none 0 0, .int .i64 1, .slice none 0 0] sz_32 rfl rfl rfl (one rfl) .here rfl rfl ?_
      refine Ops.to rfl ?_
      refine Cd.seq ?_
      refine Cd.seq ?_
      refine Cd.nilRow 126 4 ?_
      refine Cd.nilRow 116 8 ?_
      change Cd _ _ _ _ _ _ _ _ ([row none 0 116 8 (([] : List Prm).length) (([] : List Prm).flatMap ePrm), row none 0 126 4 (([] : List Syn).length) (([] : List Syn).flatMap eSyn), blk b4 32 [.slice none (([] : List Prm).length) 0, .int .i64 1, .slice none (([] : List Syn).length) 0], blk b1 32 [.slice none 0 0, .int .i64 0, .slice none 0 0]])
      refine Cd.region ?_
      refine Ops.q (q_asg rfl) ?_
      refine Ops.to rfl ?_
      refine Cd.block ?_
      refine Cd.lp (σ := Nat × Option Addr × Nat) (fun s => s.1 ≤ m + 1) (fun s => [(0, .int .i64 (m : Int)), (1, .slice la ls.length lc), (4, .pointer (some ⟨b1, 0, none⟩)), (6, .pointer (some ⟨b4, 0, none⟩)), (7, .int .i64 (s.1 : Int))]) (fun s => [blk b4 32 [.slice s.2.1 ((List.replicate s.1 (onceP 1)).length) s.2.2, .int .i64 1, .slice none (([] : List Syn).length) 0], row s.2.1 s.2.2 116 8 ((List.replicate s.1 (onceP 1)).length) ((List.replicate s.1 (onceP 1)).flatMap ePrm), row none 0 126 4 (([] : List Syn).length) (([] : List Syn).flatMap eSyn), blk b1 32 [.slice none 0 0, .int .i64 0, .slice none 0 0]]) (fun s => m + 1 - s.1) (0, none, 0) (Nat.zero_le _) ⟨rfl, rfl, rfl, rfl, rfl, trivial⟩ (fun _ hs => by have h1 := ((((hs.pull (.there (.there (.there .here)))).pull (.there (.there .here))).pull (.there (.there .here))).pull (.there (.there (.there .here)))); (try dsimp only); exact h1) ?_
      rintro ⟨i, pa, pc⟩ hI
      dsimp only at hI
      change Cd _ _ _ _ _ _ _ [(0, .int .i64 (m : Int)), (1, .slice la ls.length lc), (4, .pointer (some ⟨b1, 0, none⟩)), (6, .pointer (some ⟨b4, 0, none⟩)), (7, .int .i64 (i : Int))] ([blk b4 32 [.slice pa ((List.replicate i (onceP 1)).length) pc, .int .i64 1, .slice none (([] : List Syn).length) 0], row pa pc 116 8 ((List.replicate i (onceP 1)).length) ((List.replicate i (onceP 1)).flatMap ePrm), row none 0 126 4 (([] : List Syn).length) (([] : List Syn).flatMap eSyn), blk b1 32 [.slice none 0 0, .int .i64 0, .slice none 0 0]])
      refine Cd.seq ?_
      refine Cd.seq ?_
      refine Cd.region ?_
      refine Ops.q (q_mv rfl) ?_
      refine Ops.q (q_mv rfl) ?_
      by_cases hi0 : (i : Int) ≤ (m : Int)
      · refine Ops.q (q_cmp rfl rfl (c_le hi0)) ?_
        refine Ops.to rfl ?_
        refine Cd.cond_t rfl ?_
        refine Cd.skipTo rfl ?_
        refine Cd.seq ?_
        refine Cd.block ?_
        refine Cd.draw rfl (by kernel_rfl) (.cons .here .nil) ?_
        intro F5 St6 hP7 hF8 hR9
        refine Dr.q (i := 0) hP7 rfl (by kernel_rfl) (q_fa fo_32_0 rfl) ?_
        refine Dr.q (i := 1) hP7 rfl (by kernel_rfl) (q_ldB isA_29 rfl .here rfl) ?_
        refine Dr.e (i := 2) rfl (by kernel_rfl) ?_
        refine Ops.cp en_62 rfl (fun w hs => ronce_c 1 w) ?_
        refine Dr.back (fun _ hs => hF8 .here hs) ?_
        refine Dr.e (i := 3) rfl (by kernel_rfl) ?_
        refine Ops.lit [.int .i64 ((onceP 1).lk), .int .i64 ((onceP 1).leak), .int .i64 ((onceP 1).bias), .int .i64 ((onceP 1).th), .int .i64 ((onceP 1).rk), .int .i64 ((onceP 1).rs), .int .i64 ((onceP 1).fl), .int .i64 ((onceP 1).rest)] el_29 zsb_116 rfl rfl ⟨by decide, by decide⟩ rfl ?_
        intro b10
        refine Dr.back (fun _ hs => hF8 (.there .here) hs) ?_
        refine Dr.e (i := 4) rfl (by kernel_rfl) ?_
        refine Ops.app (news := [.int .i64 ((onceP 1).lk), .int .i64 ((onceP 1).leak), .int .i64 ((onceP 1).bias), .int .i64 ((onceP 1).th), .int .i64 ((onceP 1).rk), .int .i64 ((onceP 1).rs), .int .i64 ((onceP 1).fl), .int .i64 ((onceP 1).rest)]) el_29 zsb_116 (by decide) rfl rfl (fun _ hs => hs.ownRo .here) (fun _ hs => (hs.pull .here).drop) (fun _ _ => (.there .here)) rfl (one rfl) (by rw [List.length_replicate]; omega) (by rw [List.length_replicate]; omega) ?_
        intro a11 c12
        refine Dr.back (fun _ hs => hF8 .here hs) ?_
        refine Dr.tail 5 (by kernel_rfl) ?_
        refine Ops.sat ?_ (fun _ hs => hR9 .here hs)
        refine Ops.q (q_fa fo_32_0 rfl) ?_
        refine Ops.stB [.slice a11 (((List.replicate i (onceP 1)).length) + 1) c12] [.slice a11 (((List.replicate i (onceP 1)).length) + 1) c12, .int .i64 1, .slice none (([] : List Syn).length) 0] sz_29 rfl rfl rfl (one rfl) .here rfl rfl ?_
        refine Ops.to rfl ?_
        refine Cd.region ?_
        refine Ops.q (q_mv rfl) ?_
        refine Ops.q (q_ar rfl rfl (a_inc (by omega))) ?_
        refine Ops.q (q_asg rfl) ?_
        refine Ops.rnd ((i + 1, a11, c12)) rfl (by dsimp only; exact (by omega)) (by dsimp only; omega) ⟨rfl, rfl, rfl, rfl, rfl, trivial⟩ (fun _ hs => by have h1 := ((((hs.pull (.there (.there (.there .here)))).pull (.there (.there (.there .here)))).pull (.there (.there (.there .here)))).pull (.there (.there (.there .here)))); dsimp only; rw [List.replicate_succ', List.length_append, fm_app]; exact h1) 
      · refine Ops.q (q_cmp rfl rfl (c_nle (by omega))) ?_
        have hie : i = m + 1 := by omega
        rw [hie]
        refine Ops.to rfl ?_
        refine Cd.cond_f rfl ?_
        refine Cd.exitTo rfl ?_
        refine Cd.seq ?_
        refine Cd.seq ?_
        refine Cd.region ?_
        refine Ops.q (q_asg rfl) ?_
        refine Ops.to rfl ?_
        refine Cd.block ?_
        refine Cd.lp (σ := Nat × Option Addr × Nat) (fun s => s.1 ≤ ls.length ∧ firstE (claE (m : Int)) ((ls.map clP).drop s.1) = firstE (claE (m : Int)) (ls.map clP)) (fun s => [(0, .int .i64 (m : Int)), (1, .slice la ls.length lc), (4, .pointer (some ⟨b1, 0, none⟩)), (6, .pointer (some ⟨b4, 0, none⟩)), (8, .int .i64 (s.1 : Int))]) (fun s => [blk b4 32 [.slice s.2.1 (((List.replicate (m + 1) (onceP 1)) ++ (ls.take s.1).map (fun l : CL => onceP (max 1 (l.1.2.length : Int)))).length) s.2.2, .int .i64 1, .slice none (([] : List Syn).length) 0], row s.2.1 s.2.2 116 8 (((List.replicate (m + 1) (onceP 1)) ++ (ls.take s.1).map (fun l : CL => onceP (max 1 (l.1.2.length : Int)))).length) (((List.replicate (m + 1) (onceP 1)) ++ (ls.take s.1).map (fun l : CL => onceP (max 1 (l.1.2.length : Int)))).flatMap ePrm), row none 0 126 4 (([] : List Syn).length) (([] : List Syn).flatMap eSyn), blk b1 32 [.slice none 0 0, .int .i64 0, .slice none 0 0]]) (fun s => ls.length - s.1) (0, pa, pc) ⟨Nat.zero_le _, rfl⟩ ⟨rfl, rfl, rfl, rfl, rfl, trivial⟩ (fun _ hs => by have h1 := ((((hs.pull (.there (.there (.there .here)))).pull (.there (.there (.there .here)))).pull (.there (.there (.there .here)))).pull (.there (.there (.there .here)))); (try dsimp only); rw [show ((List.replicate (m + 1) (onceP 1)) ++ (ls.take 0).map (fun l : CL => onceP (max 1 (l.1.2.length : Int)))) = (List.replicate (m + 1) (onceP 1)) from List.append_nil _]; exact h1) ?_
        rintro ⟨k, ua, uc⟩ hI
        dsimp only at hI
        change Cd _ _ _ _ _ _ _ [(0, .int .i64 (m : Int)), (1, .slice la ls.length lc), (4, .pointer (some ⟨b1, 0, none⟩)), (6, .pointer (some ⟨b4, 0, none⟩)), (8, .int .i64 (k : Int))] ([blk b4 32 [.slice ua (((List.replicate (m + 1) (onceP 1)) ++ (ls.take k).map (fun l : CL => onceP (max 1 (l.1.2.length : Int)))).length) uc, .int .i64 1, .slice none (([] : List Syn).length) 0], row ua uc 116 8 (((List.replicate (m + 1) (onceP 1)) ++ (ls.take k).map (fun l : CL => onceP (max 1 (l.1.2.length : Int)))).length) (((List.replicate (m + 1) (onceP 1)) ++ (ls.take k).map (fun l : CL => onceP (max 1 (l.1.2.length : Int)))).flatMap ePrm), row none 0 126 4 (([] : List Syn).length) (([] : List Syn).flatMap eSyn), blk b1 32 [.slice none 0 0, .int .i64 0, .slice none 0 0]])
        have hI1 := hI.1
        refine Cd.seq ?_
        refine Cd.seq ?_
        refine Cd.region ?_
        refine Ops.q (q_mv rfl) ?_
        refine Ops.q (q_mv rfl) ?_
        refine Ops.q (q_len esz_50 rfl) ?_
        by_cases hk : (k : Int) < (ls.length : Int)
        · refine Ops.q (q_cmp rfl rfl (c_lt hk)) ?_
          obtain ⟨⟨⟨⟨xa, xc⟩, xr⟩, xt⟩, hx⟩ : ∃ x, ls[k]? = some x := ⟨_, List.getElem?_eq_getElem (by omega)⟩
          have hxe : RoL w xa eInt xr := hL.2 _ (List.mem_iff_getElem?.2 ⟨k, hx⟩)
          have hxc : ((xa, xc), xr).2.length ≤ ((xa, xc), xr).1.2 := hcap _ (List.mem_iff_getElem?.2 ⟨k, hx⟩)
          have hxq : (ls.map clP)[k]? = some (xr, xt) := by rw [List.getElem?_map, hx]; rfl
          obtain ⟨lb, lo, rfl⟩ := RoL.pos hL.1 eCl_len hx
          refine Ops.to rfl ?_
          refine Cd.cond_t rfl ?_
          refine Cd.skipTo rfl ?_
          refine Cd.seq ?_
          refine Cd.block ?_
          refine Cd.seq ?_
          refine Cd.seq ?_
          refine Cd.region ?_
          refine Ops.q (q_mv rfl) ?_
          refine Ops.q (q_mv rfl) ?_
          refine Ops.q (q_ix (k := k) esz_50 rfl rfl (by omega)) ?_
          refine Ops.q (q_fa fo_54_0 rfl) ?_
          refine Ops.q (q_ldR (v := .slice xa xr.length xc) isA_26 rfl (hL.1.at eCl_len hx rfl)) ?_
          refine Ops.q (q_len esz_26 rfl) ?_
          by_cases hx16 : 16 < (xr.length : Int)
          · refine Ops.q (q_cmp rfl rfl (c_gt hx16)) ?_
            refine Ops.to rfl ?_
            refine Cd.cond_t rfl ?_
            refine Cd.seq ?_
            refine Cd.region ?_
            refine Ops.q (q_bld [.slice none 0 0, .int .i64 0, .slice none 0 0] pls_32 zc_32 rfl rfl) ?_
            refine Ops.stB [.slice none 0 0, .int .i64 0, .slice none 0 0] [.slice none 0 0, .int .i64 0, .slice none 0 0] sz_32 rfl rfl rfl (one rfl) (.there (.there (.there .here))) rfl rfl ?_
            refine Ops.q (q_asg rfl) ?_
            refine Ops.to rfl ?_
            refine Cd.rt (fn := Try.f27) [.agg [.slice none 0 0, .int .i64 0, .slice none 0 0].toArray, .int .i64 9] (by with_reducible repeat (first | exact rq_here | apply rq_then | apply rq_block)) rfl ⟨⟨_, _, rfl, fun _ hs => run_loadN isA_32 sz_32 (fun o u hu => Sat.atB (.there (.there (.there .here))) (by rw [Nat.zero_add]; exact hu) hs)⟩, rfl, trivial⟩ ?_
            intro w' hs'
            have h8 : claE (m : Int) (xr, xt) = 9 := claE_9 (by show 16 < xr.length; omega)
            have h9 : firstE (claE (m : Int)) (ls.map clP) = 9 := by rw [← hI.2, firstE_stop hxq (by rw [h8]; decide), h8]
            rw [show hornP (m : Int) (ls.map clP) = .error (9) by unfold hornP; rw [if_pos h2, if_neg (by rw [List.length_map]; omega), h9, if_pos (by decide)]]
            exact ⟨rfl, hs'.none⟩
          · refine Ops.q (q_cmp rfl rfl (c_ngt (by omega))) ?_
            refine Ops.to rfl ?_
            refine Cd.cond_f rfl ?_
            refine Cd.skipTo rfl ?_
            refine Cd.seq ?_
            refine Cd.region ?_
            refine Ops.q (q_mv rfl) ?_
            refine Ops.q (q_mv rfl) ?_
            refine Ops.q (q_ix (k := k) esz_50 rfl rfl (by omega)) ?_
            refine Ops.q (q_fa fo_54_0 rfl) ?_
            refine Ops.q (q_ldR (v := .slice xa xr.length xc) isA_26 rfl (hL.1.at eCl_len hx rfl)) ?_
            refine Ops.q (q_mv rfl) ?_
            refine Ops.cp en_66 rfl (fun w hs => set_c _ _ xr (m : Int) w (hxe.later hs.below) (by omega) hxc (by omega)) ?_
            refine Ops.q (q_asg rfl) ?_
            refine Ops.to rfl ?_
            refine Cd.seq ?_
            refine Cd.seq ?_
            refine Cd.region ?_
            refine Ops.q (q_mv rfl) ?_
            by_cases hset : setE (m : Int) xr = 0
            · refine Ops.q (q_cmp rfl rfl (c_nne hset)) ?_
              refine Ops.to rfl ?_
              refine Cd.cond_f rfl ?_
              refine Cd.skipTo rfl ?_
              refine Cd.seq ?_
              refine Cd.seq ?_
              refine Cd.region ?_
              refine Ops.q (q_mv rfl) ?_
              refine Ops.q (q_mv rfl) ?_
              refine Ops.q (q_ix (k := k) esz_50 rfl rfl (by omega)) ?_
              refine Ops.q (q_fa fo_54_1 rfl) ?_
              refine Ops.q (q_ldR (v := .int .i64 xt) isA_3 rfl (hL.1.at eCl_len hx rfl)) ?_
              refine Ops.q (q_mv rfl) ?_
              refine Ops.q (q_ar (v := (m : Int) - 1) rfl rfl (a_sub (by omega))) ?_
              by_cases h13 : wi xt (-1) ((m : Int) - 1)
              · refine Ops.cp en_59 rfl (fun w hs => dT (rwithin_c _ _ _ w) h13) ?_
                refine Ops.q (q_not rfl) ?_
                refine Ops.to rfl ?_
                refine Cd.cond_f rfl ?_
                refine Cd.skipTo rfl ?_
                refine Cd.draw rfl (by kernel_rfl) (.cons .here .nil) ?_
                intro F14 St15 hP16 hF17 hR18
                refine Dr.q (i := 0) hP16 rfl (by kernel_rfl) (q_fa fo_32_0 rfl) ?_
                refine Dr.q (i := 1) hP16 rfl (by kernel_rfl) (q_ldB isA_29 rfl .here rfl) ?_
                refine Dr.q (i := 2) hP16 rfl (by kernel_rfl) (q_mv rfl) ?_
                refine Dr.q (i := 3) hP16 rfl (by kernel_rfl) (q_mv rfl) ?_
                refine Dr.q (i := 4) hP16 rfl (by kernel_rfl) (q_ix (k := k) esz_50 rfl rfl (by omega)) ?_
                refine Dr.q (i := 5) hP16 rfl (by kernel_rfl) (q_fa fo_54_0 rfl) ?_
                refine Dr.q (i := 6) hP16 rfl (by kernel_rfl) (q_ldR (v := .slice xa xr.length xc) isA_26 rfl (hL.1.at eCl_len hx rfl)) ?_
                refine Dr.q (i := 7) hP16 rfl (by kernel_rfl) (q_len esz_26 rfl) ?_
                refine Dr.q (i := 8) hP16 rfl (by kernel_rfl) (q_max rfl rfl) ?_
                refine Dr.e (i := 9) rfl (by kernel_rfl) ?_
                refine Ops.cp en_62 rfl (fun w hs => ronce_c (max 1 (xr.length : Int)) w) ?_
                refine Dr.back (fun _ hs => hF17 .here hs) ?_
                refine Dr.e (i := 10) rfl (by kernel_rfl) ?_
                refine Ops.lit [.int .i64 ((onceP (max 1 (xr.length : Int))).lk), .int .i64 ((onceP (max 1 (xr.length : Int))).leak), .int .i64 ((onceP (max 1 (xr.length : Int))).bias), .int .i64 ((onceP (max 1 (xr.length : Int))).th), .int .i64 ((onceP (max 1 (xr.length : Int))).rk), .int .i64 ((onceP (max 1 (xr.length : Int))).rs), .int .i64 ((onceP (max 1 (xr.length : Int))).fl), .int .i64 ((onceP (max 1 (xr.length : Int))).rest)] el_29 zsb_116 rfl rfl ⟨by decide, by decide⟩ rfl ?_
                intro b19
                refine Dr.back (fun _ hs => hF17 (.there .here) hs) ?_
                refine Dr.e (i := 11) rfl (by kernel_rfl) ?_
                refine Ops.app (news := [.int .i64 ((onceP (max 1 (xr.length : Int))).lk), .int .i64 ((onceP (max 1 (xr.length : Int))).leak), .int .i64 ((onceP (max 1 (xr.length : Int))).bias), .int .i64 ((onceP (max 1 (xr.length : Int))).th), .int .i64 ((onceP (max 1 (xr.length : Int))).rk), .int .i64 ((onceP (max 1 (xr.length : Int))).rs), .int .i64 ((onceP (max 1 (xr.length : Int))).fl), .int .i64 ((onceP (max 1 (xr.length : Int))).rest)]) el_29 zsb_116 (by decide) rfl rfl (fun _ hs => hs.ownRo .here) (fun _ hs => (hs.pull .here).drop) (fun _ _ => (.there .here)) rfl (one rfl) (by simp only [List.length_append, List.length_map, List.length_take, List.length_cons, List.length_nil, List.length_replicate, selves_len]; omega) (by simp only [List.length_append, List.length_map, List.length_take, List.length_cons, List.length_nil, List.length_replicate, selves_len]; omega) ?_
                intro a20 c21
                refine Dr.back (fun _ hs => hF17 .here hs) ?_
                refine Dr.tail 12 (by kernel_rfl) ?_
                refine Ops.sat ?_ (fun _ hs => hR18 .here hs)
                refine Ops.q (q_fa fo_32_0 rfl) ?_
                refine Ops.stB [.slice a20 ((((List.replicate (m + 1) (onceP 1)) ++ (ls.take k).map (fun l : CL => onceP (max 1 (l.1.2.length : Int)))).length) + 1) c21] [.slice a20 ((((List.replicate (m + 1) (onceP 1)) ++ (ls.take k).map (fun l : CL => onceP (max 1 (l.1.2.length : Int)))).length) + 1) c21, .int .i64 1, .slice none (([] : List Syn).length) 0] sz_29 rfl rfl rfl (one rfl) .here rfl rfl ?_
                refine Ops.to rfl ?_
                refine Cd.region ?_
                refine Ops.q (q_mv rfl) ?_
                refine Ops.q (q_ar rfl rfl (a_inc (by omega))) ?_
                refine Ops.q (q_asg rfl) ?_
                refine Ops.rnd ((k + 1, a20, c21)) rfl (by dsimp only; exact (⟨by omega, by rw [← hI.2]; exact (firstE_step hxq (claE_0 (by show ¬ 16 < xr.length; omega) hset h13)).symm⟩)) (by dsimp only; omega) ⟨rfl, rfl, rfl, rfl, rfl, trivial⟩ (fun _ hs => by have h1 := ((((hs.pull (.there (.there (.there .here)))).pull (.there (.there (.there .here)))).pull (.there (.there (.there .here)))).pull (.there (.there (.there .here)))); dsimp only; rw [mapT _ hx, ← List.append_assoc, List.length_append, fm_app]; exact h1) 
              · refine Ops.cp en_59 rfl (fun w hs => dF (rwithin_c _ _ _ w) h13) ?_
                refine Ops.q (q_not rfl) ?_
                refine Ops.to rfl ?_
                refine Cd.cond_t rfl ?_
                refine Cd.seq ?_
                refine Cd.region ?_
                refine Ops.q (q_bld [.slice none 0 0, .int .i64 0, .slice none 0 0] pls_32 zc_32 rfl rfl) ?_
                refine Ops.stB [.slice none 0 0, .int .i64 0, .slice none 0 0] [.slice none 0 0, .int .i64 0, .slice none 0 0] sz_32 rfl rfl rfl (one rfl) (.there (.there (.there .here))) rfl rfl ?_
                refine Ops.q (q_asg rfl) ?_
                refine Ops.to rfl ?_
                refine Cd.rt (fn := Try.f27) [.agg [.slice none 0 0, .int .i64 0, .slice none 0 0].toArray, .int .i64 4] (by with_reducible repeat (first | exact rq_here | apply rq_then | apply rq_block)) rfl ⟨⟨_, _, rfl, fun _ hs => run_loadN isA_32 sz_32 (fun o u hu => Sat.atB (.there (.there (.there .here))) (by rw [Nat.zero_add]; exact hu) hs)⟩, rfl, trivial⟩ ?_
                intro w' hs'
                have h8 : claE (m : Int) (xr, xt) = 4 := claE_4 (by show ¬ 16 < xr.length; omega) hset h13
                have h9 : firstE (claE (m : Int)) (ls.map clP) = 4 := by rw [← hI.2, firstE_stop hxq (by rw [h8]; decide), h8]
                rw [show hornP (m : Int) (ls.map clP) = .error (4) by unfold hornP; rw [if_pos h2, if_neg (by rw [List.length_map]; omega), h9, if_pos (by decide)]]
                exact ⟨rfl, hs'.none⟩
            · refine Ops.q (q_cmp rfl rfl (c_ne hset)) ?_
              refine Ops.to rfl ?_
              refine Cd.cond_t rfl ?_
              refine Cd.seq ?_
              refine Cd.region ?_
              refine Ops.q (q_bld [.slice none 0 0, .int .i64 0, .slice none 0 0] pls_32 zc_32 rfl rfl) ?_
              refine Ops.q (q_mv rfl) ?_
              refine Ops.stB [.slice none 0 0, .int .i64 0, .slice none 0 0] [.slice none 0 0, .int .i64 0, .slice none 0 0] sz_32 rfl rfl rfl (one rfl) (.there (.there (.there .here))) rfl rfl ?_
              refine Ops.q (q_asg rfl) ?_
              refine Ops.to rfl ?_
              refine Cd.rt (fn := Try.f27) [.agg [.slice none 0 0, .int .i64 0, .slice none 0 0].toArray, .int .i64 (setE (m : Int) xr)] (by with_reducible repeat (first | exact rq_here | apply rq_then | apply rq_block)) rfl ⟨⟨_, _, rfl, fun _ hs => run_loadN isA_32 sz_32 (fun o u hu => Sat.atB (.there (.there (.there .here))) (by rw [Nat.zero_add]; exact hu) hs)⟩, rfl, trivial⟩ ?_
              intro w' hs'
              have h8 : claE (m : Int) (xr, xt) = setE (m : Int) xr := claE_s (by show ¬ 16 < xr.length; omega) hset
              have h9 : firstE (claE (m : Int)) (ls.map clP) = setE (m : Int) xr := by rw [← hI.2, firstE_stop hxq (by rw [h8]; exact hset), h8]
              rw [show hornP (m : Int) (ls.map clP) = .error (setE (m : Int) xr) by unfold hornP; rw [if_pos h2, if_neg (by rw [List.length_map]; omega), h9, if_pos (by exact hset)]]
              exact ⟨rfl, hs'.none⟩
        · refine Ops.q (q_cmp rfl rfl (c_nlt (by omega))) ?_
          have h9 : firstE (claE (m : Int)) (ls.map clP) = 0 := by rw [← hI.2, firstE_end (by rw [List.length_map]; omega)]
          have h16 : ∀ x ∈ (ls.map clP), x.1.length ≤ 16 := fun x hx => claE_16 (firstE_zero h9 x hx)
          refine Ops.to rfl ?_
          refine Cd.cond_f rfl ?_
          refine Cd.exitTo rfl ?_
          refine Cd.seq ?_
          refine Cd.region ?_
          refine Ops.q (q_ldBN [.slice ua (((List.replicate (m + 1) (onceP 1)) ++ (ls.take k).map (fun l : CL => onceP (max 1 (l.1.2.length : Int)))).length) uc, .int .i64 1, .slice none (([] : List Syn).length) 0] isA_32 sz_32 rfl .here rfl) ?_
          refine Ops.cm (α := Option Addr × Nat) (v := fun p => .agg [.slice ua (((List.replicate (m + 1) (onceP 1)) ++ (ls.take k).map (fun l : CL => onceP (max 1 (l.1.2.length : Int)))).length) uc, .int .i64 1, .slice p.1 (([] : List Syn) ++ selvesFrom 0 ((List.replicate (m + 1) (onceP 1)) ++ (ls.take k).map (fun l : CL => onceP (max 1 (l.1.2.length : Int)))).length).length p.2].toArray) (A' := fun p => row p.1 p.2 126 4 (([] : List Syn) ++ selvesFrom 0 ((List.replicate (m + 1) (onceP 1)) ++ (ls.take k).map (fun l : CL => onceP (max 1 (l.1.2.length : Int)))).length).length ((([] : List Syn) ++ selvesFrom 0 ((List.replicate (m + 1) (onceP 1)) ++ (ls.take k).map (fun l : CL => onceP (max 1 (l.1.2.length : Int)))).length).flatMap eSyn) :: [blk b4 32 [.slice ua (((List.replicate (m + 1) (onceP 1)) ++ (ls.take k).map (fun l : CL => onceP (max 1 (l.1.2.length : Int)))).length) uc, .int .i64 1, .slice none (([] : List Syn).length) 0], row ua uc 116 8 (((List.replicate (m + 1) (onceP 1)) ++ (ls.take k).map (fun l : CL => onceP (max 1 (l.1.2.length : Int)))).length) (((List.replicate (m + 1) (onceP 1)) ++ (ls.take k).map (fun l : CL => onceP (max 1 (l.1.2.length : Int)))).flatMap ePrm), blk b1 32 [.slice none 0 0, .int .i64 0, .slice none 0 0]]) en_63 rfl (fun w hs => rselves_c _ ((List.replicate (m + 1) (onceP 1)) ++ (ls.take k).map (fun l : CL => onceP (max 1 (l.1.2.length : Int)))).length _ 1 _ _ ([] : List Syn) _ w _ (by simp only [List.length_append, List.length_map, List.length_take, List.length_cons, List.length_nil, List.length_replicate, selves_len]; omega) (((((hs.pull (.there (.there (.there .here)))).pull (.there (.there .here))).pull (.there (.there .here))).pull (.there (.there (.there .here)))))) ?_
          rintro ⟨a22, c23⟩
          refine Ops.stB [.slice ua (((List.replicate (m + 1) (onceP 1)) ++ (ls.take k).map (fun l : CL => onceP (max 1 (l.1.2.length : Int)))).length) uc, .int .i64 1, .slice a22 ((([] : List Syn) ++ selvesFrom 0 ((List.replicate (m + 1) (onceP 1)) ++ (ls.take k).map (fun l : CL => onceP (max 1 (l.1.2.length : Int)))).length).length) c23] [.slice ua (((List.replicate (m + 1) (onceP 1)) ++ (ls.take k).map (fun l : CL => onceP (max 1 (l.1.2.length : Int)))).length) uc, .int .i64 1, .slice a22 ((([] : List Syn) ++ selvesFrom 0 ((List.replicate (m + 1) (onceP 1)) ++ (ls.take k).map (fun l : CL => onceP (max 1 (l.1.2.length : Int)))).length).length) c23] sz_32 rfl rfl rfl (one rfl) (.there .here) rfl rfl ?_
          refine Ops.to rfl ?_
          refine Cd.seq ?_
          refine Cd.seq ?_
          refine Cd.region ?_
          refine Ops.q (q_asg rfl) ?_
          refine Ops.to rfl ?_
          refine Cd.block ?_
          refine Cd.lp (σ := Nat × Option Addr × Nat) (fun s => s.1 ≤ ls.length) (fun s => [(0, .int .i64 (m : Int)), (1, .slice la ls.length lc), (4, .pointer (some ⟨b1, 0, none⟩)), (6, .pointer (some ⟨b4, 0, none⟩)), (10, .int .i64 (s.1 : Int))]) (fun s => [blk b4 32 [.slice ua (((List.replicate (m + 1) (onceP 1)) ++ (ls.take k).map (fun l : CL => onceP (max 1 (l.1.2.length : Int)))).length) uc, .int .i64 1, .slice s.2.1 (((([] : List Syn) ++ selvesFrom 0 ((List.replicate (m + 1) (onceP 1)) ++ (ls.take k).map (fun l : CL => onceP (max 1 (l.1.2.length : Int)))).length) ++ clTo m (ls.map clP) s.1).length) s.2.2], row ua uc 116 8 (((List.replicate (m + 1) (onceP 1)) ++ (ls.take k).map (fun l : CL => onceP (max 1 (l.1.2.length : Int)))).length) (((List.replicate (m + 1) (onceP 1)) ++ (ls.take k).map (fun l : CL => onceP (max 1 (l.1.2.length : Int)))).flatMap ePrm), row s.2.1 s.2.2 126 4 (((([] : List Syn) ++ selvesFrom 0 ((List.replicate (m + 1) (onceP 1)) ++ (ls.take k).map (fun l : CL => onceP (max 1 (l.1.2.length : Int)))).length) ++ clTo m (ls.map clP) s.1).length) (((([] : List Syn) ++ selvesFrom 0 ((List.replicate (m + 1) (onceP 1)) ++ (ls.take k).map (fun l : CL => onceP (max 1 (l.1.2.length : Int)))).length) ++ clTo m (ls.map clP) s.1).flatMap eSyn), blk b1 32 [.slice none 0 0, .int .i64 0, .slice none 0 0]]) (fun s => ls.length - s.1) (0, a22, c23) (Nat.zero_le _) ⟨rfl, rfl, rfl, rfl, rfl, trivial⟩ (fun _ hs => by have h1 := ((((hs.pull (.there (.there (.there .here)))).pull (.there .here)).pull (.there (.there (.there .here)))).pull (.there (.there (.there .here)))); (try dsimp only); rw [show ((([] : List Syn) ++ selvesFrom 0 ((List.replicate (m + 1) (onceP 1)) ++ (ls.take k).map (fun l : CL => onceP (max 1 (l.1.2.length : Int)))).length) ++ clTo m (ls.map clP) 0) = (([] : List Syn) ++ selvesFrom 0 ((List.replicate (m + 1) (onceP 1)) ++ (ls.take k).map (fun l : CL => onceP (max 1 (l.1.2.length : Int)))).length) from List.append_nil _]; exact h1) ?_
          rintro ⟨q, qa, qc⟩ hI
          dsimp only at hI
          change Cd _ _ _ _ _ _ _ [(0, .int .i64 (m : Int)), (1, .slice la ls.length lc), (4, .pointer (some ⟨b1, 0, none⟩)), (6, .pointer (some ⟨b4, 0, none⟩)), (10, .int .i64 (q : Int))] ([blk b4 32 [.slice ua (((List.replicate (m + 1) (onceP 1)) ++ (ls.take k).map (fun l : CL => onceP (max 1 (l.1.2.length : Int)))).length) uc, .int .i64 1, .slice qa (((([] : List Syn) ++ selvesFrom 0 ((List.replicate (m + 1) (onceP 1)) ++ (ls.take k).map (fun l : CL => onceP (max 1 (l.1.2.length : Int)))).length) ++ clTo m (ls.map clP) q).length) qc], row ua uc 116 8 (((List.replicate (m + 1) (onceP 1)) ++ (ls.take k).map (fun l : CL => onceP (max 1 (l.1.2.length : Int)))).length) (((List.replicate (m + 1) (onceP 1)) ++ (ls.take k).map (fun l : CL => onceP (max 1 (l.1.2.length : Int)))).flatMap ePrm), row qa qc 126 4 (((([] : List Syn) ++ selvesFrom 0 ((List.replicate (m + 1) (onceP 1)) ++ (ls.take k).map (fun l : CL => onceP (max 1 (l.1.2.length : Int)))).length) ++ clTo m (ls.map clP) q).length) (((([] : List Syn) ++ selvesFrom 0 ((List.replicate (m + 1) (onceP 1)) ++ (ls.take k).map (fun l : CL => onceP (max 1 (l.1.2.length : Int)))).length) ++ clTo m (ls.map clP) q).flatMap eSyn), blk b1 32 [.slice none 0 0, .int .i64 0, .slice none 0 0]])
          refine Cd.seq ?_
          refine Cd.seq ?_
          refine Cd.region ?_
          refine Ops.q (q_mv rfl) ?_
          refine Ops.q (q_mv rfl) ?_
          refine Ops.q (q_len esz_50 rfl) ?_
          by_cases hq0 : (q : Int) < (ls.length : Int)
          · refine Ops.q (q_cmp rfl rfl (c_lt hq0)) ?_
            obtain ⟨⟨⟨⟨xa, xc⟩, xr⟩, xt⟩, hx⟩ : ∃ x, ls[q]? = some x := ⟨_, List.getElem?_eq_getElem (by omega)⟩
            have hxe : RoL w xa eInt xr := hL.2 _ (List.mem_iff_getElem?.2 ⟨q, hx⟩)
            have hxc : ((xa, xc), xr).2.length ≤ ((xa, xc), xr).1.2 := hcap _ (List.mem_iff_getElem?.2 ⟨q, hx⟩)
            have hxq : (ls.map clP)[q]? = some (xr, xt) := by rw [List.getElem?_map, hx]; rfl
            obtain ⟨lb, lo, rfl⟩ := RoL.pos hL.1 eCl_len hx
            have hcl := clTo_len (m := m) h16 q (by rw [List.length_map]; omega)
            have hxm := h16 _ (List.mem_iff_getElem?.2 ⟨q, hxq⟩)
            dsimp only at hxm
            refine Ops.to rfl ?_
            refine Cd.cond_t rfl ?_
            refine Cd.skipTo rfl ?_
            refine Cd.seq ?_
            refine Cd.block ?_
            refine Cd.seq ?_
            refine Cd.seq ?_
            refine Cd.region ?_
            refine Ops.q (q_asg rfl) ?_
            refine Ops.to rfl ?_
            refine Cd.block ?_
            refine Cd.lp (σ := Nat × Option Addr × Nat) (fun s => s.1 ≤ xr.length) (fun s => [(0, .int .i64 (m : Int)), (1, .slice (some ⟨lb, lo, none⟩) ls.length lc), (4, .pointer (some ⟨b1, 0, none⟩)), (6, .pointer (some ⟨b4, 0, none⟩)), (10, .int .i64 (q : Int)), (11, .int .i64 (s.1 : Int))]) (fun s => [blk b4 32 [.slice ua (((List.replicate (m + 1) (onceP 1)) ++ (ls.take k).map (fun l : CL => onceP (max 1 (l.1.2.length : Int)))).length) uc, .int .i64 1, .slice s.2.1 ((((([] : List Syn) ++ selvesFrom 0 ((List.replicate (m + 1) (onceP 1)) ++ (ls.take k).map (fun l : CL => onceP (max 1 (l.1.2.length : Int)))).length) ++ clTo m (ls.map clP) q) ++ (xr.take s.1).map (fun t : Int => (⟨t, ((m + 1 + q : Nat) : Int), 1, 1⟩ : Syn))).length) s.2.2], row ua uc 116 8 (((List.replicate (m + 1) (onceP 1)) ++ (ls.take k).map (fun l : CL => onceP (max 1 (l.1.2.length : Int)))).length) (((List.replicate (m + 1) (onceP 1)) ++ (ls.take k).map (fun l : CL => onceP (max 1 (l.1.2.length : Int)))).flatMap ePrm), row s.2.1 s.2.2 126 4 ((((([] : List Syn) ++ selvesFrom 0 ((List.replicate (m + 1) (onceP 1)) ++ (ls.take k).map (fun l : CL => onceP (max 1 (l.1.2.length : Int)))).length) ++ clTo m (ls.map clP) q) ++ (xr.take s.1).map (fun t : Int => (⟨t, ((m + 1 + q : Nat) : Int), 1, 1⟩ : Syn))).length) ((((([] : List Syn) ++ selvesFrom 0 ((List.replicate (m + 1) (onceP 1)) ++ (ls.take k).map (fun l : CL => onceP (max 1 (l.1.2.length : Int)))).length) ++ clTo m (ls.map clP) q) ++ (xr.take s.1).map (fun t : Int => (⟨t, ((m + 1 + q : Nat) : Int), 1, 1⟩ : Syn))).flatMap eSyn), blk b1 32 [.slice none 0 0, .int .i64 0, .slice none 0 0]]) (fun s => xr.length - s.1) (0, qa, qc) (Nat.zero_le _) ⟨rfl, rfl, rfl, rfl, rfl, rfl, trivial⟩ (fun _ hs => by have h1 := ((((hs.pull (.there (.there (.there .here)))).pull (.there (.there (.there .here)))).pull (.there (.there (.there .here)))).pull (.there (.there (.there .here)))); (try dsimp only); rw [show (((([] : List Syn) ++ selvesFrom 0 ((List.replicate (m + 1) (onceP 1)) ++ (ls.take k).map (fun l : CL => onceP (max 1 (l.1.2.length : Int)))).length) ++ clTo m (ls.map clP) q) ++ (xr.take 0).map (fun t : Int => (⟨t, ((m + 1 + q : Nat) : Int), 1, 1⟩ : Syn))) = ((([] : List Syn) ++ selvesFrom 0 ((List.replicate (m + 1) (onceP 1)) ++ (ls.take k).map (fun l : CL => onceP (max 1 (l.1.2.length : Int)))).length) ++ clTo m (ls.map clP) q) from List.append_nil _]; exact h1) ?_
            rintro ⟨j, ra, rc⟩ hI
            dsimp only at hI
            change Cd _ _ _ _ _ _ _ [(0, .int .i64 (m : Int)), (1, .slice (some ⟨lb, lo, none⟩) ls.length lc), (4, .pointer (some ⟨b1, 0, none⟩)), (6, .pointer (some ⟨b4, 0, none⟩)), (10, .int .i64 (q : Int)), (11, .int .i64 (j : Int))] ([blk b4 32 [.slice ua (((List.replicate (m + 1) (onceP 1)) ++ (ls.take k).map (fun l : CL => onceP (max 1 (l.1.2.length : Int)))).length) uc, .int .i64 1, .slice ra ((((([] : List Syn) ++ selvesFrom 0 ((List.replicate (m + 1) (onceP 1)) ++ (ls.take k).map (fun l : CL => onceP (max 1 (l.1.2.length : Int)))).length) ++ clTo m (ls.map clP) q) ++ (xr.take j).map (fun t : Int => (⟨t, ((m + 1 + q : Nat) : Int), 1, 1⟩ : Syn))).length) rc], row ua uc 116 8 (((List.replicate (m + 1) (onceP 1)) ++ (ls.take k).map (fun l : CL => onceP (max 1 (l.1.2.length : Int)))).length) (((List.replicate (m + 1) (onceP 1)) ++ (ls.take k).map (fun l : CL => onceP (max 1 (l.1.2.length : Int)))).flatMap ePrm), row ra rc 126 4 ((((([] : List Syn) ++ selvesFrom 0 ((List.replicate (m + 1) (onceP 1)) ++ (ls.take k).map (fun l : CL => onceP (max 1 (l.1.2.length : Int)))).length) ++ clTo m (ls.map clP) q) ++ (xr.take j).map (fun t : Int => (⟨t, ((m + 1 + q : Nat) : Int), 1, 1⟩ : Syn))).length) ((((([] : List Syn) ++ selvesFrom 0 ((List.replicate (m + 1) (onceP 1)) ++ (ls.take k).map (fun l : CL => onceP (max 1 (l.1.2.length : Int)))).length) ++ clTo m (ls.map clP) q) ++ (xr.take j).map (fun t : Int => (⟨t, ((m + 1 + q : Nat) : Int), 1, 1⟩ : Syn))).flatMap eSyn), blk b1 32 [.slice none 0 0, .int .i64 0, .slice none 0 0]])
            refine Cd.seq ?_
            refine Cd.seq ?_
            refine Cd.region ?_
            refine Ops.q (q_mv rfl) ?_
            refine Ops.q (q_mv rfl) ?_
            refine Ops.q (q_mv rfl) ?_
            refine Ops.q (q_ix (k := q) esz_50 rfl rfl (by omega)) ?_
            refine Ops.q (q_fa fo_54_0 rfl) ?_
            refine Ops.q (q_ldR (v := .slice xa xr.length xc) isA_26 rfl (hL.1.at eCl_len hx rfl)) ?_
            refine Ops.q (q_len esz_26 rfl) ?_
            by_cases hj : (j : Int) < (xr.length : Int)
            · refine Ops.q (q_cmp rfl rfl (c_lt hj)) ?_
              obtain ⟨x24, hx25⟩ : ∃ x, xr[j]? = some x := ⟨_, List.getElem?_eq_getElem (by omega)⟩
              obtain ⟨ab26, ao27, rfl⟩ := RoL.pos hxe eInt_len hx25
              refine Ops.to rfl ?_
              refine Cd.cond_t rfl ?_
              refine Cd.skipTo rfl ?_
              refine Cd.seq ?_
              refine Cd.block ?_
              refine Cd.draw rfl (by kernel_rfl) (.cons .here .nil) ?_
              intro F28 St29 hP30 hF31 hR32
              refine Dr.q (i := 0) hP30 rfl (by kernel_rfl) (q_ldBN [.slice ua (((List.replicate (m + 1) (onceP 1)) ++ (ls.take k).map (fun l : CL => onceP (max 1 (l.1.2.length : Int)))).length) uc, .int .i64 1, .slice ra ((((([] : List Syn) ++ selvesFrom 0 ((List.replicate (m + 1) (onceP 1)) ++ (ls.take k).map (fun l : CL => onceP (max 1 (l.1.2.length : Int)))).length) ++ clTo m (ls.map clP) q) ++ (xr.take j).map (fun t : Int => (⟨t, ((m + 1 + q : Nat) : Int), 1, 1⟩ : Syn))).length) rc] isA_32 sz_32 rfl .here rfl) ?_
              refine Dr.q (i := 1) hP30 rfl (by kernel_rfl) (q_mv rfl) ?_
              refine Dr.q (i := 2) hP30 rfl (by kernel_rfl) (q_mv rfl) ?_
              refine Dr.q (i := 3) hP30 rfl (by kernel_rfl) (q_ix (k := q) esz_50 rfl rfl (by omega)) ?_
              refine Dr.q (i := 4) hP30 rfl (by kernel_rfl) (q_fa fo_54_0 rfl) ?_
              refine Dr.q (i := 5) hP30 rfl (by kernel_rfl) (q_ldR (v := .slice (some ⟨ab26, ao27, none⟩) xr.length xc) isA_26 rfl (hL.1.at eCl_len hx rfl)) ?_
              refine Dr.q (i := 6) hP30 rfl (by kernel_rfl) (q_mv rfl) ?_
              refine Dr.q (i := 7) hP30 rfl (by kernel_rfl) (q_ix (k := j) esz_26 rfl rfl (by omega)) ?_
              refine Dr.q (i := 8) hP30 rfl (by kernel_rfl) (q_ldR isA_3 rfl (hxe.at0 eInt_len hx25 rfl)) ?_
              refine Dr.q (i := 9) hP30 rfl (by kernel_rfl) (q_mv rfl) ?_
              refine Dr.q (i := 10) hP30 rfl (by kernel_rfl) (q_ar (v := ((m + 1 : Nat) : Int)) rfl rfl (a_inc (by omega))) ?_
              refine Dr.q (i := 11) hP30 rfl (by kernel_rfl) (q_mv rfl) ?_
              refine Dr.q (i := 12) hP30 rfl (by kernel_rfl) (q_ar (v := ((m + 1 + q : Nat) : Int)) rfl rfl ((by rw [a_add (by omega)]; rfl))) ?_
              refine Dr.e (i := 13) rfl (by kernel_rfl) ?_
              refine Ops.cm (α := Option Addr × Nat) (v := fun p => .agg [.slice ua (((List.replicate (m + 1) (onceP 1)) ++ (ls.take k).map (fun l : CL => onceP (max 1 (l.1.2.length : Int)))).length) uc, .int .i64 1, .slice p.1 ((((([] : List Syn) ++ selvesFrom 0 ((List.replicate (m + 1) (onceP 1)) ++ (ls.take k).map (fun l : CL => onceP (max 1 (l.1.2.length : Int)))).length) ++ clTo m (ls.map clP) q) ++ (xr.take j).map (fun t : Int => (⟨t, ((m + 1 + q : Nat) : Int), 1, 1⟩ : Syn))) ++ [(⟨x24, ((m + 1 + q : Nat) : Int), 1, 1⟩ : Syn)]).length p.2].toArray) (A' := fun p => row p.1 p.2 126 4 ((((([] : List Syn) ++ selvesFrom 0 ((List.replicate (m + 1) (onceP 1)) ++ (ls.take k).map (fun l : CL => onceP (max 1 (l.1.2.length : Int)))).length) ++ clTo m (ls.map clP) q) ++ (xr.take j).map (fun t : Int => (⟨t, ((m + 1 + q : Nat) : Int), 1, 1⟩ : Syn))) ++ [(⟨x24, ((m + 1 + q : Nat) : Int), 1, 1⟩ : Syn)]).length (((((([] : List Syn) ++ selvesFrom 0 ((List.replicate (m + 1) (onceP 1)) ++ (ls.take k).map (fun l : CL => onceP (max 1 (l.1.2.length : Int)))).length) ++ clTo m (ls.map clP) q) ++ (xr.take j).map (fun t : Int => (⟨t, ((m + 1 + q : Nat) : Int), 1, 1⟩ : Syn))) ++ [(⟨x24, ((m + 1 + q : Nat) : Int), 1, 1⟩ : Syn)]).flatMap eSyn) :: [F28, row ua uc 116 8 (((List.replicate (m + 1) (onceP 1)) ++ (ls.take k).map (fun l : CL => onceP (max 1 (l.1.2.length : Int)))).length) (((List.replicate (m + 1) (onceP 1)) ++ (ls.take k).map (fun l : CL => onceP (max 1 (l.1.2.length : Int)))).flatMap ePrm), blk b1 32 [.slice none 0 0, .int .i64 0, .slice none 0 0]]) en_55 rfl (fun w hs => wire_c _ _ _ 1 _ _ (((([] : List Syn) ++ selvesFrom 0 ((List.replicate (m + 1) (onceP 1)) ++ (ls.take k).map (fun l : CL => onceP (max 1 (l.1.2.length : Int)))).length) ++ clTo m (ls.map clP) q) ++ (xr.take j).map (fun t : Int => (⟨t, ((m + 1 + q : Nat) : Int), 1, 1⟩ : Syn))) x24 ((m + 1 + q : Nat) : Int) 1 1 _ w _ (by simp only [List.length_append, List.length_map, List.length_take, List.length_cons, List.length_nil, List.length_replicate, selves_len]; omega) (((((hs.pull (.there (.there (.there .here)))).pull (.there (.there .here))).pull (.there (.there .here))).pull (.there (.there (.there .here)))))) ?_
              rintro ⟨a33, c34⟩
              refine Dr.back (fun _ hs => hF31 (.there .here) hs) ?_
              refine Dr.tail 14 (by kernel_rfl) ?_
              refine Ops.sat ?_ (fun _ hs => hR32 (.there .here) hs)
              refine Ops.stB [.slice ua (((List.replicate (m + 1) (onceP 1)) ++ (ls.take k).map (fun l : CL => onceP (max 1 (l.1.2.length : Int)))).length) uc, .int .i64 1, .slice a33 (((((([] : List Syn) ++ selvesFrom 0 ((List.replicate (m + 1) (onceP 1)) ++ (ls.take k).map (fun l : CL => onceP (max 1 (l.1.2.length : Int)))).length) ++ clTo m (ls.map clP) q) ++ (xr.take j).map (fun t : Int => (⟨t, ((m + 1 + q : Nat) : Int), 1, 1⟩ : Syn))) ++ [(⟨x24, ((m + 1 + q : Nat) : Int), 1, 1⟩ : Syn)]).length) c34] [.slice ua (((List.replicate (m + 1) (onceP 1)) ++ (ls.take k).map (fun l : CL => onceP (max 1 (l.1.2.length : Int)))).length) uc, .int .i64 1, .slice a33 (((((([] : List Syn) ++ selvesFrom 0 ((List.replicate (m + 1) (onceP 1)) ++ (ls.take k).map (fun l : CL => onceP (max 1 (l.1.2.length : Int)))).length) ++ clTo m (ls.map clP) q) ++ (xr.take j).map (fun t : Int => (⟨t, ((m + 1 + q : Nat) : Int), 1, 1⟩ : Syn))) ++ [(⟨x24, ((m + 1 + q : Nat) : Int), 1, 1⟩ : Syn)]).length) c34] sz_32 rfl rfl rfl (one rfl) .here rfl rfl ?_
              refine Ops.to rfl ?_
              refine Cd.region ?_
              refine Ops.q (q_mv rfl) ?_
              refine Ops.q (q_ar rfl rfl (a_inc (by omega))) ?_
              refine Ops.q (q_asg rfl) ?_
              refine Ops.rnd ((j + 1, a33, c34)) rfl (by dsimp only; exact (by omega)) (by dsimp only; omega) ⟨rfl, rfl, rfl, rfl, rfl, rfl, trivial⟩ (fun _ hs => by have h1 := ((((hs.pull (.there (.there (.there .here)))).pull (.there (.there .here))).pull (.there (.there (.there .here)))).pull (.there (.there (.there .here)))); dsimp only; rw [mapT _ hx25, ← List.append_assoc]; exact h1) 
            · refine Ops.q (q_cmp rfl rfl (c_nlt (by omega))) ?_
              refine Ops.to rfl ?_
              refine Cd.cond_f rfl ?_
              refine Cd.exitTo rfl ?_
              refine Cd.seq ?_
              refine Cd.seq ?_
              refine Cd.region ?_
              refine Ops.q (q_mv rfl) ?_
              refine Ops.q (q_mv rfl) ?_
              refine Ops.q (q_ix (k := q) esz_50 rfl rfl (by omega)) ?_
              refine Ops.q (q_fa fo_54_0 rfl) ?_
              refine Ops.q (q_ldR (v := .slice xa xr.length xc) isA_26 rfl (hL.1.at eCl_len hx rfl)) ?_
              refine Ops.q (q_len esz_26 rfl) ?_
              by_cases hemp : (xr.length : Int) = 0
              · refine Ops.q (q_cmp rfl rfl (c_eq hemp)) ?_
                refine Ops.to rfl ?_
                refine Cd.cond_t rfl ?_
                refine Cd.draw rfl (by kernel_rfl) (.cons .here .nil) ?_
                intro F35 St36 hP37 hF38 hR39
                refine Dr.q (i := 0) hP37 rfl (by kernel_rfl) (q_ldBN [.slice ua (((List.replicate (m + 1) (onceP 1)) ++ (ls.take k).map (fun l : CL => onceP (max 1 (l.1.2.length : Int)))).length) uc, .int .i64 1, .slice ra ((((([] : List Syn) ++ selvesFrom 0 ((List.replicate (m + 1) (onceP 1)) ++ (ls.take k).map (fun l : CL => onceP (max 1 (l.1.2.length : Int)))).length) ++ clTo m (ls.map clP) q) ++ (xr.take j).map (fun t : Int => (⟨t, ((m + 1 + q : Nat) : Int), 1, 1⟩ : Syn))).length) rc] isA_32 sz_32 rfl .here rfl) ?_
                refine Dr.q (i := 2) hP37 rfl (by kernel_rfl) (q_mv rfl) ?_
                refine Dr.q (i := 3) hP37 rfl (by kernel_rfl) (q_ar (v := ((m + 1 : Nat) : Int)) rfl rfl (a_inc (by omega))) ?_
                refine Dr.q (i := 4) hP37 rfl (by kernel_rfl) (q_mv rfl) ?_
                refine Dr.q (i := 5) hP37 rfl (by kernel_rfl) (q_ar (v := ((m + 1 + q : Nat) : Int)) rfl rfl ((by rw [a_add (by omega)]; rfl))) ?_
                refine Dr.e (i := 1) rfl (by kernel_rfl) ?_
                refine Ops.cp en_56 rfl (fun w hs => rinput_c 0 w (by omega)) ?_
                refine Dr.back (fun _ hs => hF38 .here hs) ?_
                refine Dr.e (i := 6) rfl (by kernel_rfl) ?_
                refine Ops.cm (α := Option Addr × Nat) (v := fun p => .agg [.slice ua (((List.replicate (m + 1) (onceP 1)) ++ (ls.take k).map (fun l : CL => onceP (max 1 (l.1.2.length : Int)))).length) uc, .int .i64 1, .slice p.1 ((((([] : List Syn) ++ selvesFrom 0 ((List.replicate (m + 1) (onceP 1)) ++ (ls.take k).map (fun l : CL => onceP (max 1 (l.1.2.length : Int)))).length) ++ clTo m (ls.map clP) q) ++ (xr.take j).map (fun t : Int => (⟨t, ((m + 1 + q : Nat) : Int), 1, 1⟩ : Syn))) ++ [(⟨-1 - 0, ((m + 1 + q : Nat) : Int), 1, 1⟩ : Syn)]).length p.2].toArray) (A' := fun p => row p.1 p.2 126 4 ((((([] : List Syn) ++ selvesFrom 0 ((List.replicate (m + 1) (onceP 1)) ++ (ls.take k).map (fun l : CL => onceP (max 1 (l.1.2.length : Int)))).length) ++ clTo m (ls.map clP) q) ++ (xr.take j).map (fun t : Int => (⟨t, ((m + 1 + q : Nat) : Int), 1, 1⟩ : Syn))) ++ [(⟨-1 - 0, ((m + 1 + q : Nat) : Int), 1, 1⟩ : Syn)]).length (((((([] : List Syn) ++ selvesFrom 0 ((List.replicate (m + 1) (onceP 1)) ++ (ls.take k).map (fun l : CL => onceP (max 1 (l.1.2.length : Int)))).length) ++ clTo m (ls.map clP) q) ++ (xr.take j).map (fun t : Int => (⟨t, ((m + 1 + q : Nat) : Int), 1, 1⟩ : Syn))) ++ [(⟨-1 - 0, ((m + 1 + q : Nat) : Int), 1, 1⟩ : Syn)]).flatMap eSyn) :: [F35, row ua uc 116 8 (((List.replicate (m + 1) (onceP 1)) ++ (ls.take k).map (fun l : CL => onceP (max 1 (l.1.2.length : Int)))).length) (((List.replicate (m + 1) (onceP 1)) ++ (ls.take k).map (fun l : CL => onceP (max 1 (l.1.2.length : Int)))).flatMap ePrm), blk b1 32 [.slice none 0 0, .int .i64 0, .slice none 0 0]]) en_55 rfl (fun w hs => wire_c _ _ _ 1 _ _ (((([] : List Syn) ++ selvesFrom 0 ((List.replicate (m + 1) (onceP 1)) ++ (ls.take k).map (fun l : CL => onceP (max 1 (l.1.2.length : Int)))).length) ++ clTo m (ls.map clP) q) ++ (xr.take j).map (fun t : Int => (⟨t, ((m + 1 + q : Nat) : Int), 1, 1⟩ : Syn))) (-1 - 0) ((m + 1 + q : Nat) : Int) 1 1 _ w _ (by simp only [List.length_append, List.length_map, List.length_take, List.length_cons, List.length_nil, List.length_replicate, selves_len]; omega) (((((hs.pull (.there (.there (.there .here)))).pull (.there (.there .here))).pull (.there (.there .here))).pull (.there (.there (.there .here)))))) ?_
                rintro ⟨a40, c41⟩
                refine Dr.back (fun _ hs => hF38 (.there .here) hs) ?_
                refine Dr.tail 7 (by kernel_rfl) ?_
                refine Ops.sat ?_ (fun _ hs => hR39 (.there .here) hs)
                refine Ops.stB [.slice ua (((List.replicate (m + 1) (onceP 1)) ++ (ls.take k).map (fun l : CL => onceP (max 1 (l.1.2.length : Int)))).length) uc, .int .i64 1, .slice a40 (((((([] : List Syn) ++ selvesFrom 0 ((List.replicate (m + 1) (onceP 1)) ++ (ls.take k).map (fun l : CL => onceP (max 1 (l.1.2.length : Int)))).length) ++ clTo m (ls.map clP) q) ++ (xr.take j).map (fun t : Int => (⟨t, ((m + 1 + q : Nat) : Int), 1, 1⟩ : Syn))) ++ [(⟨-1 - 0, ((m + 1 + q : Nat) : Int), 1, 1⟩ : Syn)]).length) c41] [.slice ua (((List.replicate (m + 1) (onceP 1)) ++ (ls.take k).map (fun l : CL => onceP (max 1 (l.1.2.length : Int)))).length) uc, .int .i64 1, .slice a40 (((((([] : List Syn) ++ selvesFrom 0 ((List.replicate (m + 1) (onceP 1)) ++ (ls.take k).map (fun l : CL => onceP (max 1 (l.1.2.length : Int)))).length) ++ clTo m (ls.map clP) q) ++ (xr.take j).map (fun t : Int => (⟨t, ((m + 1 + q : Nat) : Int), 1, 1⟩ : Syn))) ++ [(⟨-1 - 0, ((m + 1 + q : Nat) : Int), 1, 1⟩ : Syn)]).length) c41] sz_32 rfl rfl rfl (one rfl) .here rfl rfl ?_
                refine Ops.to rfl ?_
                refine Cd.seq ?_
                refine Cd.region ?_
                refine Ops.q (q_mv rfl) ?_
                refine Ops.q (q_mv rfl) ?_
                refine Ops.q (q_ix (k := q) esz_50 rfl rfl (by omega)) ?_
                refine Ops.q (q_fa fo_54_1 rfl) ?_
                refine Ops.q (q_ldR (v := .int .i64 xt) isA_3 rfl (hL.1.at eCl_len hx rfl)) ?_
                refine Ops.q (q_asg rfl) ?_
                refine Ops.to rfl ?_
                refine Cd.seq ?_
                refine Cd.seq ?_
                refine Cd.region ?_
                refine Ops.q (q_mv rfl) ?_
                by_cases h42 : xt < 0
                · refine Ops.q (q_cmp rfl rfl (c_lt h42)) ?_
                  have hxt := h42
                  refine Ops.to rfl ?_
                  refine Cd.cond_t rfl ?_
                  refine Cd.region ?_
                  refine Ops.q (q_mv rfl) ?_
                  refine Ops.q (q_asg rfl) ?_
                  refine Ops.to rfl ?_
                  refine Cd.region ?_
                  refine Ops.q (q_ldBN [.slice ua (((List.replicate (m + 1) (onceP 1)) ++ (ls.take k).map (fun l : CL => onceP (max 1 (l.1.2.length : Int)))).length) uc, .int .i64 1, .slice a40 (((((([] : List Syn) ++ selvesFrom 0 ((List.replicate (m + 1) (onceP 1)) ++ (ls.take k).map (fun l : CL => onceP (max 1 (l.1.2.length : Int)))).length) ++ clTo m (ls.map clP) q) ++ (xr.take j).map (fun t : Int => (⟨t, ((m + 1 + q : Nat) : Int), 1, 1⟩ : Syn))) ++ [(⟨-1 - 0, ((m + 1 + q : Nat) : Int), 1, 1⟩ : Syn)]).length) c41] isA_32 sz_32 rfl .here rfl) ?_
                  refine Ops.q (q_mv rfl) ?_
                  refine Ops.q (q_ar (v := ((m + 1 : Nat) : Int)) rfl rfl (a_inc (by omega))) ?_
                  refine Ops.q (q_mv rfl) ?_
                  refine Ops.q (q_ar (v := ((m + 1 + q : Nat) : Int)) rfl rfl ((by rw [a_add (by omega)]; rfl))) ?_
                  refine Ops.q (q_mv rfl) ?_
                  refine Ops.cm (α := Option Addr × Nat) (v := fun p => .agg [.slice ua (((List.replicate (m + 1) (onceP 1)) ++ (ls.take k).map (fun l : CL => onceP (max 1 (l.1.2.length : Int)))).length) uc, .int .i64 1, .slice p.1 (((((([] : List Syn) ++ selvesFrom 0 ((List.replicate (m + 1) (onceP 1)) ++ (ls.take k).map (fun l : CL => onceP (max 1 (l.1.2.length : Int)))).length) ++ clTo m (ls.map clP) q) ++ (xr.take j).map (fun t : Int => (⟨t, ((m + 1 + q : Nat) : Int), 1, 1⟩ : Syn))) ++ [(⟨-1 - 0, ((m + 1 + q : Nat) : Int), 1, 1⟩ : Syn)]) ++ [(⟨((m + 1 + q : Nat) : Int), (m : Int), 1, 1⟩ : Syn)]).length p.2].toArray) (A' := fun p => row p.1 p.2 126 4 (((((([] : List Syn) ++ selvesFrom 0 ((List.replicate (m + 1) (onceP 1)) ++ (ls.take k).map (fun l : CL => onceP (max 1 (l.1.2.length : Int)))).length) ++ clTo m (ls.map clP) q) ++ (xr.take j).map (fun t : Int => (⟨t, ((m + 1 + q : Nat) : Int), 1, 1⟩ : Syn))) ++ [(⟨-1 - 0, ((m + 1 + q : Nat) : Int), 1, 1⟩ : Syn)]) ++ [(⟨((m + 1 + q : Nat) : Int), (m : Int), 1, 1⟩ : Syn)]).length ((((((([] : List Syn) ++ selvesFrom 0 ((List.replicate (m + 1) (onceP 1)) ++ (ls.take k).map (fun l : CL => onceP (max 1 (l.1.2.length : Int)))).length) ++ clTo m (ls.map clP) q) ++ (xr.take j).map (fun t : Int => (⟨t, ((m + 1 + q : Nat) : Int), 1, 1⟩ : Syn))) ++ [(⟨-1 - 0, ((m + 1 + q : Nat) : Int), 1, 1⟩ : Syn)]) ++ [(⟨((m + 1 + q : Nat) : Int), (m : Int), 1, 1⟩ : Syn)]).flatMap eSyn) :: [blk b4 32 [.slice ua (((List.replicate (m + 1) (onceP 1)) ++ (ls.take k).map (fun l : CL => onceP (max 1 (l.1.2.length : Int)))).length) uc, .int .i64 1, .slice a40 (((((([] : List Syn) ++ selvesFrom 0 ((List.replicate (m + 1) (onceP 1)) ++ (ls.take k).map (fun l : CL => onceP (max 1 (l.1.2.length : Int)))).length) ++ clTo m (ls.map clP) q) ++ (xr.take j).map (fun t : Int => (⟨t, ((m + 1 + q : Nat) : Int), 1, 1⟩ : Syn))) ++ [(⟨-1 - 0, ((m + 1 + q : Nat) : Int), 1, 1⟩ : Syn)]).length) c41], row ua uc 116 8 (((List.replicate (m + 1) (onceP 1)) ++ (ls.take k).map (fun l : CL => onceP (max 1 (l.1.2.length : Int)))).length) (((List.replicate (m + 1) (onceP 1)) ++ (ls.take k).map (fun l : CL => onceP (max 1 (l.1.2.length : Int)))).flatMap ePrm), blk b1 32 [.slice none 0 0, .int .i64 0, .slice none 0 0]]) en_55 rfl (fun w hs => wire_c _ _ _ 1 _ _ ((((([] : List Syn) ++ selvesFrom 0 ((List.replicate (m + 1) (onceP 1)) ++ (ls.take k).map (fun l : CL => onceP (max 1 (l.1.2.length : Int)))).length) ++ clTo m (ls.map clP) q) ++ (xr.take j).map (fun t : Int => (⟨t, ((m + 1 + q : Nat) : Int), 1, 1⟩ : Syn))) ++ [(⟨-1 - 0, ((m + 1 + q : Nat) : Int), 1, 1⟩ : Syn)]) ((m + 1 + q : Nat) : Int) (m : Int) 1 1 _ w _ (by simp only [List.length_append, List.length_map, List.length_take, List.length_cons, List.length_nil, List.length_replicate, selves_len]; omega) (((((hs.pull (.there (.there (.there .here)))).pull (.there (.there (.there .here)))).pull (.there (.there .here))).pull (.there (.there (.there .here)))))) ?_
                  rintro ⟨a43, c44⟩
                  refine Ops.stB [.slice ua (((List.replicate (m + 1) (onceP 1)) ++ (ls.take k).map (fun l : CL => onceP (max 1 (l.1.2.length : Int)))).length) uc, .int .i64 1, .slice a43 ((((((([] : List Syn) ++ selvesFrom 0 ((List.replicate (m + 1) (onceP 1)) ++ (ls.take k).map (fun l : CL => onceP (max 1 (l.1.2.length : Int)))).length) ++ clTo m (ls.map clP) q) ++ (xr.take j).map (fun t : Int => (⟨t, ((m + 1 + q : Nat) : Int), 1, 1⟩ : Syn))) ++ [(⟨-1 - 0, ((m + 1 + q : Nat) : Int), 1, 1⟩ : Syn)]) ++ [(⟨((m + 1 + q : Nat) : Int), (m : Int), 1, 1⟩ : Syn)]).length) c44] [.slice ua (((List.replicate (m + 1) (onceP 1)) ++ (ls.take k).map (fun l : CL => onceP (max 1 (l.1.2.length : Int)))).length) uc, .int .i64 1, .slice a43 ((((((([] : List Syn) ++ selvesFrom 0 ((List.replicate (m + 1) (onceP 1)) ++ (ls.take k).map (fun l : CL => onceP (max 1 (l.1.2.length : Int)))).length) ++ clTo m (ls.map clP) q) ++ (xr.take j).map (fun t : Int => (⟨t, ((m + 1 + q : Nat) : Int), 1, 1⟩ : Syn))) ++ [(⟨-1 - 0, ((m + 1 + q : Nat) : Int), 1, 1⟩ : Syn)]) ++ [(⟨((m + 1 + q : Nat) : Int), (m : Int), 1, 1⟩ : Syn)]).length) c44] sz_32 rfl rfl rfl (one rfl) (.there .here) rfl rfl ?_
                  refine Ops.to rfl ?_
                  refine Cd.region ?_
                  refine Ops.q (q_mv rfl) ?_
                  refine Ops.q (q_ar rfl rfl (a_inc (by omega))) ?_
                  refine Ops.q (q_asg rfl) ?_
                  refine Ops.rnd ((q + 1, a43, c44)) rfl (by dsimp only; exact (by omega)) (by dsimp only; omega) ⟨rfl, rfl, rfl, rfl, rfl, trivial⟩ (fun _ hs => by have h1 := ((((hs.pull (.there (.there (.there .here)))).pull (.there .here)).pull (.there (.there (.there .here)))).pull (.there (.there (.there .here)))); rw [List.take_of_length_le (show xr.length ≤ j by omega)] at h1; dsimp only; rw [cl_stepE hxq (by omega) (by rw [if_pos (by omega)])]; exact h1) 
                · refine Ops.q (q_cmp rfl rfl (c_nlt (by omega))) ?_
                  have hxt := h42
                  refine Ops.to rfl ?_
                  refine Cd.cond_f rfl ?_
                  refine Cd.skipTo rfl ?_
                  refine Cd.region ?_
                  refine Ops.q (q_ldBN [.slice ua (((List.replicate (m + 1) (onceP 1)) ++ (ls.take k).map (fun l : CL => onceP (max 1 (l.1.2.length : Int)))).length) uc, .int .i64 1, .slice a40 (((((([] : List Syn) ++ selvesFrom 0 ((List.replicate (m + 1) (onceP 1)) ++ (ls.take k).map (fun l : CL => onceP (max 1 (l.1.2.length : Int)))).length) ++ clTo m (ls.map clP) q) ++ (xr.take j).map (fun t : Int => (⟨t, ((m + 1 + q : Nat) : Int), 1, 1⟩ : Syn))) ++ [(⟨-1 - 0, ((m + 1 + q : Nat) : Int), 1, 1⟩ : Syn)]).length) c41] isA_32 sz_32 rfl .here rfl) ?_
                  refine Ops.q (q_mv rfl) ?_
                  refine Ops.q (q_ar (v := ((m + 1 : Nat) : Int)) rfl rfl (a_inc (by omega))) ?_
                  refine Ops.q (q_mv rfl) ?_
                  refine Ops.q (q_ar (v := ((m + 1 + q : Nat) : Int)) rfl rfl ((by rw [a_add (by omega)]; rfl))) ?_
                  refine Ops.q (q_mv rfl) ?_
                  refine Ops.cm (α := Option Addr × Nat) (v := fun p => .agg [.slice ua (((List.replicate (m + 1) (onceP 1)) ++ (ls.take k).map (fun l : CL => onceP (max 1 (l.1.2.length : Int)))).length) uc, .int .i64 1, .slice p.1 (((((([] : List Syn) ++ selvesFrom 0 ((List.replicate (m + 1) (onceP 1)) ++ (ls.take k).map (fun l : CL => onceP (max 1 (l.1.2.length : Int)))).length) ++ clTo m (ls.map clP) q) ++ (xr.take j).map (fun t : Int => (⟨t, ((m + 1 + q : Nat) : Int), 1, 1⟩ : Syn))) ++ [(⟨-1 - 0, ((m + 1 + q : Nat) : Int), 1, 1⟩ : Syn)]) ++ [(⟨((m + 1 + q : Nat) : Int), xt, 1, 1⟩ : Syn)]).length p.2].toArray) (A' := fun p => row p.1 p.2 126 4 (((((([] : List Syn) ++ selvesFrom 0 ((List.replicate (m + 1) (onceP 1)) ++ (ls.take k).map (fun l : CL => onceP (max 1 (l.1.2.length : Int)))).length) ++ clTo m (ls.map clP) q) ++ (xr.take j).map (fun t : Int => (⟨t, ((m + 1 + q : Nat) : Int), 1, 1⟩ : Syn))) ++ [(⟨-1 - 0, ((m + 1 + q : Nat) : Int), 1, 1⟩ : Syn)]) ++ [(⟨((m + 1 + q : Nat) : Int), xt, 1, 1⟩ : Syn)]).length ((((((([] : List Syn) ++ selvesFrom 0 ((List.replicate (m + 1) (onceP 1)) ++ (ls.take k).map (fun l : CL => onceP (max 1 (l.1.2.length : Int)))).length) ++ clTo m (ls.map clP) q) ++ (xr.take j).map (fun t : Int => (⟨t, ((m + 1 + q : Nat) : Int), 1, 1⟩ : Syn))) ++ [(⟨-1 - 0, ((m + 1 + q : Nat) : Int), 1, 1⟩ : Syn)]) ++ [(⟨((m + 1 + q : Nat) : Int), xt, 1, 1⟩ : Syn)]).flatMap eSyn) :: [blk b4 32 [.slice ua (((List.replicate (m + 1) (onceP 1)) ++ (ls.take k).map (fun l : CL => onceP (max 1 (l.1.2.length : Int)))).length) uc, .int .i64 1, .slice a40 (((((([] : List Syn) ++ selvesFrom 0 ((List.replicate (m + 1) (onceP 1)) ++ (ls.take k).map (fun l : CL => onceP (max 1 (l.1.2.length : Int)))).length) ++ clTo m (ls.map clP) q) ++ (xr.take j).map (fun t : Int => (⟨t, ((m + 1 + q : Nat) : Int), 1, 1⟩ : Syn))) ++ [(⟨-1 - 0, ((m + 1 + q : Nat) : Int), 1, 1⟩ : Syn)]).length) c41], row ua uc 116 8 (((List.replicate (m + 1) (onceP 1)) ++ (ls.take k).map (fun l : CL => onceP (max 1 (l.1.2.length : Int)))).length) (((List.replicate (m + 1) (onceP 1)) ++ (ls.take k).map (fun l : CL => onceP (max 1 (l.1.2.length : Int)))).flatMap ePrm), blk b1 32 [.slice none 0 0, .int .i64 0, .slice none 0 0]]) en_55 rfl (fun w hs => wire_c _ _ _ 1 _ _ ((((([] : List Syn) ++ selvesFrom 0 ((List.replicate (m + 1) (onceP 1)) ++ (ls.take k).map (fun l : CL => onceP (max 1 (l.1.2.length : Int)))).length) ++ clTo m (ls.map clP) q) ++ (xr.take j).map (fun t : Int => (⟨t, ((m + 1 + q : Nat) : Int), 1, 1⟩ : Syn))) ++ [(⟨-1 - 0, ((m + 1 + q : Nat) : Int), 1, 1⟩ : Syn)]) ((m + 1 + q : Nat) : Int) xt 1 1 _ w _ (by simp only [List.length_append, List.length_map, List.length_take, List.length_cons, List.length_nil, List.length_replicate, selves_len]; omega) (((((hs.pull (.there (.there (.there .here)))).pull (.there (.there (.there .here)))).pull (.there (.there .here))).pull (.there (.there (.there .here)))))) ?_
                  rintro ⟨a45, c46⟩
                  refine Ops.stB [.slice ua (((List.replicate (m + 1) (onceP 1)) ++ (ls.take k).map (fun l : CL => onceP (max 1 (l.1.2.length : Int)))).length) uc, .int .i64 1, .slice a45 ((((((([] : List Syn) ++ selvesFrom 0 ((List.replicate (m + 1) (onceP 1)) ++ (ls.take k).map (fun l : CL => onceP (max 1 (l.1.2.length : Int)))).length) ++ clTo m (ls.map clP) q) ++ (xr.take j).map (fun t : Int => (⟨t, ((m + 1 + q : Nat) : Int), 1, 1⟩ : Syn))) ++ [(⟨-1 - 0, ((m + 1 + q : Nat) : Int), 1, 1⟩ : Syn)]) ++ [(⟨((m + 1 + q : Nat) : Int), xt, 1, 1⟩ : Syn)]).length) c46] [.slice ua (((List.replicate (m + 1) (onceP 1)) ++ (ls.take k).map (fun l : CL => onceP (max 1 (l.1.2.length : Int)))).length) uc, .int .i64 1, .slice a45 ((((((([] : List Syn) ++ selvesFrom 0 ((List.replicate (m + 1) (onceP 1)) ++ (ls.take k).map (fun l : CL => onceP (max 1 (l.1.2.length : Int)))).length) ++ clTo m (ls.map clP) q) ++ (xr.take j).map (fun t : Int => (⟨t, ((m + 1 + q : Nat) : Int), 1, 1⟩ : Syn))) ++ [(⟨-1 - 0, ((m + 1 + q : Nat) : Int), 1, 1⟩ : Syn)]) ++ [(⟨((m + 1 + q : Nat) : Int), xt, 1, 1⟩ : Syn)]).length) c46] sz_32 rfl rfl rfl (one rfl) (.there .here) rfl rfl ?_
                  refine Ops.to rfl ?_
                  refine Cd.region ?_
                  refine Ops.q (q_mv rfl) ?_
                  refine Ops.q (q_ar rfl rfl (a_inc (by omega))) ?_
                  refine Ops.q (q_asg rfl) ?_
                  refine Ops.rnd ((q + 1, a45, c46)) rfl (by dsimp only; exact (by omega)) (by dsimp only; omega) ⟨rfl, rfl, rfl, rfl, rfl, trivial⟩ (fun _ hs => by have h1 := ((((hs.pull (.there (.there (.there .here)))).pull (.there .here)).pull (.there (.there (.there .here)))).pull (.there (.there (.there .here)))); rw [List.take_of_length_le (show xr.length ≤ j by omega)] at h1; dsimp only; rw [cl_stepE hxq (by omega) (by rw [if_neg (by omega)])]; exact h1) 
              · refine Ops.q (q_cmp rfl rfl (c_neq hemp)) ?_
                refine Ops.to rfl ?_
                refine Cd.cond_f rfl ?_
                refine Cd.skipTo rfl ?_
                refine Cd.seq ?_
                refine Cd.region ?_
                refine Ops.q (q_mv rfl) ?_
                refine Ops.q (q_mv rfl) ?_
                refine Ops.q (q_ix (k := q) esz_50 rfl rfl (by omega)) ?_
                refine Ops.q (q_fa fo_54_1 rfl) ?_
                refine Ops.q (q_ldR (v := .int .i64 xt) isA_3 rfl (hL.1.at eCl_len hx rfl)) ?_
                refine Ops.q (q_asg rfl) ?_
                refine Ops.to rfl ?_
                refine Cd.seq ?_
                refine Cd.seq ?_
                refine Cd.region ?_
                refine Ops.q (q_mv rfl) ?_
                by_cases h47 : xt < 0
                · refine Ops.q (q_cmp rfl rfl (c_lt h47)) ?_
                  have hxt := h47
                  refine Ops.to rfl ?_
                  refine Cd.cond_t rfl ?_
                  refine Cd.region ?_
                  refine Ops.q (q_mv rfl) ?_
                  refine Ops.q (q_asg rfl) ?_
                  refine Ops.to rfl ?_
                  refine Cd.region ?_
                  refine Ops.q (q_ldBN [.slice ua (((List.replicate (m + 1) (onceP 1)) ++ (ls.take k).map (fun l : CL => onceP (max 1 (l.1.2.length : Int)))).length) uc, .int .i64 1, .slice ra ((((([] : List Syn) ++ selvesFrom 0 ((List.replicate (m + 1) (onceP 1)) ++ (ls.take k).map (fun l : CL => onceP (max 1 (l.1.2.length : Int)))).length) ++ clTo m (ls.map clP) q) ++ (xr.take j).map (fun t : Int => (⟨t, ((m + 1 + q : Nat) : Int), 1, 1⟩ : Syn))).length) rc] isA_32 sz_32 rfl .here rfl) ?_
                  refine Ops.q (q_mv rfl) ?_
                  refine Ops.q (q_ar (v := ((m + 1 : Nat) : Int)) rfl rfl (a_inc (by omega))) ?_
                  refine Ops.q (q_mv rfl) ?_
                  refine Ops.q (q_ar (v := ((m + 1 + q : Nat) : Int)) rfl rfl ((by rw [a_add (by omega)]; rfl))) ?_
                  refine Ops.q (q_mv rfl) ?_
                  refine Ops.cm (α := Option Addr × Nat) (v := fun p => .agg [.slice ua (((List.replicate (m + 1) (onceP 1)) ++ (ls.take k).map (fun l : CL => onceP (max 1 (l.1.2.length : Int)))).length) uc, .int .i64 1, .slice p.1 ((((([] : List Syn) ++ selvesFrom 0 ((List.replicate (m + 1) (onceP 1)) ++ (ls.take k).map (fun l : CL => onceP (max 1 (l.1.2.length : Int)))).length) ++ clTo m (ls.map clP) q) ++ (xr.take j).map (fun t : Int => (⟨t, ((m + 1 + q : Nat) : Int), 1, 1⟩ : Syn))) ++ [(⟨((m + 1 + q : Nat) : Int), (m : Int), 1, 1⟩ : Syn)]).length p.2].toArray) (A' := fun p => row p.1 p.2 126 4 ((((([] : List Syn) ++ selvesFrom 0 ((List.replicate (m + 1) (onceP 1)) ++ (ls.take k).map (fun l : CL => onceP (max 1 (l.1.2.length : Int)))).length) ++ clTo m (ls.map clP) q) ++ (xr.take j).map (fun t : Int => (⟨t, ((m + 1 + q : Nat) : Int), 1, 1⟩ : Syn))) ++ [(⟨((m + 1 + q : Nat) : Int), (m : Int), 1, 1⟩ : Syn)]).length (((((([] : List Syn) ++ selvesFrom 0 ((List.replicate (m + 1) (onceP 1)) ++ (ls.take k).map (fun l : CL => onceP (max 1 (l.1.2.length : Int)))).length) ++ clTo m (ls.map clP) q) ++ (xr.take j).map (fun t : Int => (⟨t, ((m + 1 + q : Nat) : Int), 1, 1⟩ : Syn))) ++ [(⟨((m + 1 + q : Nat) : Int), (m : Int), 1, 1⟩ : Syn)]).flatMap eSyn) :: [blk b4 32 [.slice ua (((List.replicate (m + 1) (onceP 1)) ++ (ls.take k).map (fun l : CL => onceP (max 1 (l.1.2.length : Int)))).length) uc, .int .i64 1, .slice ra ((((([] : List Syn) ++ selvesFrom 0 ((List.replicate (m + 1) (onceP 1)) ++ (ls.take k).map (fun l : CL => onceP (max 1 (l.1.2.length : Int)))).length) ++ clTo m (ls.map clP) q) ++ (xr.take j).map (fun t : Int => (⟨t, ((m + 1 + q : Nat) : Int), 1, 1⟩ : Syn))).length) rc], row ua uc 116 8 (((List.replicate (m + 1) (onceP 1)) ++ (ls.take k).map (fun l : CL => onceP (max 1 (l.1.2.length : Int)))).length) (((List.replicate (m + 1) (onceP 1)) ++ (ls.take k).map (fun l : CL => onceP (max 1 (l.1.2.length : Int)))).flatMap ePrm), blk b1 32 [.slice none 0 0, .int .i64 0, .slice none 0 0]]) en_55 rfl (fun w hs => wire_c _ _ _ 1 _ _ (((([] : List Syn) ++ selvesFrom 0 ((List.replicate (m + 1) (onceP 1)) ++ (ls.take k).map (fun l : CL => onceP (max 1 (l.1.2.length : Int)))).length) ++ clTo m (ls.map clP) q) ++ (xr.take j).map (fun t : Int => (⟨t, ((m + 1 + q : Nat) : Int), 1, 1⟩ : Syn))) ((m + 1 + q : Nat) : Int) (m : Int) 1 1 _ w _ (by simp only [List.length_append, List.length_map, List.length_take, List.length_cons, List.length_nil, List.length_replicate, selves_len]; omega) (((((hs.pull (.there (.there (.there .here)))).pull (.there (.there .here))).pull (.there (.there .here))).pull (.there (.there (.there .here)))))) ?_
                  rintro ⟨a48, c49⟩
                  refine Ops.stB [.slice ua (((List.replicate (m + 1) (onceP 1)) ++ (ls.take k).map (fun l : CL => onceP (max 1 (l.1.2.length : Int)))).length) uc, .int .i64 1, .slice a48 (((((([] : List Syn) ++ selvesFrom 0 ((List.replicate (m + 1) (onceP 1)) ++ (ls.take k).map (fun l : CL => onceP (max 1 (l.1.2.length : Int)))).length) ++ clTo m (ls.map clP) q) ++ (xr.take j).map (fun t : Int => (⟨t, ((m + 1 + q : Nat) : Int), 1, 1⟩ : Syn))) ++ [(⟨((m + 1 + q : Nat) : Int), (m : Int), 1, 1⟩ : Syn)]).length) c49] [.slice ua (((List.replicate (m + 1) (onceP 1)) ++ (ls.take k).map (fun l : CL => onceP (max 1 (l.1.2.length : Int)))).length) uc, .int .i64 1, .slice a48 (((((([] : List Syn) ++ selvesFrom 0 ((List.replicate (m + 1) (onceP 1)) ++ (ls.take k).map (fun l : CL => onceP (max 1 (l.1.2.length : Int)))).length) ++ clTo m (ls.map clP) q) ++ (xr.take j).map (fun t : Int => (⟨t, ((m + 1 + q : Nat) : Int), 1, 1⟩ : Syn))) ++ [(⟨((m + 1 + q : Nat) : Int), (m : Int), 1, 1⟩ : Syn)]).length) c49] sz_32 rfl rfl rfl (one rfl) (.there .here) rfl rfl ?_
                  refine Ops.to rfl ?_
                  refine Cd.region ?_
                  refine Ops.q (q_mv rfl) ?_
                  refine Ops.q (q_ar rfl rfl (a_inc (by omega))) ?_
                  refine Ops.q (q_asg rfl) ?_
                  refine Ops.rnd ((q + 1, a48, c49)) rfl (by dsimp only; exact (by omega)) (by dsimp only; omega) ⟨rfl, rfl, rfl, rfl, rfl, trivial⟩ (fun _ hs => by have h1 := ((((hs.pull (.there (.there (.there .here)))).pull (.there .here)).pull (.there (.there (.there .here)))).pull (.there (.there (.there .here)))); rw [List.take_of_length_le (show xr.length ≤ j by omega)] at h1; dsimp only; rw [cl_stepN hxq (by omega) (by rw [if_pos (by omega)])]; exact h1) 
                · refine Ops.q (q_cmp rfl rfl (c_nlt (by omega))) ?_
                  have hxt := h47
                  refine Ops.to rfl ?_
                  refine Cd.cond_f rfl ?_
                  refine Cd.skipTo rfl ?_
                  refine Cd.region ?_
                  refine Ops.q (q_ldBN [.slice ua (((List.replicate (m + 1) (onceP 1)) ++ (ls.take k).map (fun l : CL => onceP (max 1 (l.1.2.length : Int)))).length) uc, .int .i64 1, .slice ra ((((([] : List Syn) ++ selvesFrom 0 ((List.replicate (m + 1) (onceP 1)) ++ (ls.take k).map (fun l : CL => onceP (max 1 (l.1.2.length : Int)))).length) ++ clTo m (ls.map clP) q) ++ (xr.take j).map (fun t : Int => (⟨t, ((m + 1 + q : Nat) : Int), 1, 1⟩ : Syn))).length) rc] isA_32 sz_32 rfl .here rfl) ?_
                  refine Ops.q (q_mv rfl) ?_
                  refine Ops.q (q_ar (v := ((m + 1 : Nat) : Int)) rfl rfl (a_inc (by omega))) ?_
                  refine Ops.q (q_mv rfl) ?_
                  refine Ops.q (q_ar (v := ((m + 1 + q : Nat) : Int)) rfl rfl ((by rw [a_add (by omega)]; rfl))) ?_
                  refine Ops.q (q_mv rfl) ?_
                  refine Ops.cm (α := Option Addr × Nat) (v := fun p => .agg [.slice ua (((List.replicate (m + 1) (onceP 1)) ++ (ls.take k).map (fun l : CL => onceP (max 1 (l.1.2.length : Int)))).length) uc, .int .i64 1, .slice p.1 ((((([] : List Syn) ++ selvesFrom 0 ((List.replicate (m + 1) (onceP 1)) ++ (ls.take k).map (fun l : CL => onceP (max 1 (l.1.2.length : Int)))).length) ++ clTo m (ls.map clP) q) ++ (xr.take j).map (fun t : Int => (⟨t, ((m + 1 + q : Nat) : Int), 1, 1⟩ : Syn))) ++ [(⟨((m + 1 + q : Nat) : Int), xt, 1, 1⟩ : Syn)]).length p.2].toArray) (A' := fun p => row p.1 p.2 126 4 ((((([] : List Syn) ++ selvesFrom 0 ((List.replicate (m + 1) (onceP 1)) ++ (ls.take k).map (fun l : CL => onceP (max 1 (l.1.2.length : Int)))).length) ++ clTo m (ls.map clP) q) ++ (xr.take j).map (fun t : Int => (⟨t, ((m + 1 + q : Nat) : Int), 1, 1⟩ : Syn))) ++ [(⟨((m + 1 + q : Nat) : Int), xt, 1, 1⟩ : Syn)]).length (((((([] : List Syn) ++ selvesFrom 0 ((List.replicate (m + 1) (onceP 1)) ++ (ls.take k).map (fun l : CL => onceP (max 1 (l.1.2.length : Int)))).length) ++ clTo m (ls.map clP) q) ++ (xr.take j).map (fun t : Int => (⟨t, ((m + 1 + q : Nat) : Int), 1, 1⟩ : Syn))) ++ [(⟨((m + 1 + q : Nat) : Int), xt, 1, 1⟩ : Syn)]).flatMap eSyn) :: [blk b4 32 [.slice ua (((List.replicate (m + 1) (onceP 1)) ++ (ls.take k).map (fun l : CL => onceP (max 1 (l.1.2.length : Int)))).length) uc, .int .i64 1, .slice ra ((((([] : List Syn) ++ selvesFrom 0 ((List.replicate (m + 1) (onceP 1)) ++ (ls.take k).map (fun l : CL => onceP (max 1 (l.1.2.length : Int)))).length) ++ clTo m (ls.map clP) q) ++ (xr.take j).map (fun t : Int => (⟨t, ((m + 1 + q : Nat) : Int), 1, 1⟩ : Syn))).length) rc], row ua uc 116 8 (((List.replicate (m + 1) (onceP 1)) ++ (ls.take k).map (fun l : CL => onceP (max 1 (l.1.2.length : Int)))).length) (((List.replicate (m + 1) (onceP 1)) ++ (ls.take k).map (fun l : CL => onceP (max 1 (l.1.2.length : Int)))).flatMap ePrm), blk b1 32 [.slice none 0 0, .int .i64 0, .slice none 0 0]]) en_55 rfl (fun w hs => wire_c _ _ _ 1 _ _ (((([] : List Syn) ++ selvesFrom 0 ((List.replicate (m + 1) (onceP 1)) ++ (ls.take k).map (fun l : CL => onceP (max 1 (l.1.2.length : Int)))).length) ++ clTo m (ls.map clP) q) ++ (xr.take j).map (fun t : Int => (⟨t, ((m + 1 + q : Nat) : Int), 1, 1⟩ : Syn))) ((m + 1 + q : Nat) : Int) xt 1 1 _ w _ (by simp only [List.length_append, List.length_map, List.length_take, List.length_cons, List.length_nil, List.length_replicate, selves_len]; omega) (((((hs.pull (.there (.there (.there .here)))).pull (.there (.there .here))).pull (.there (.there .here))).pull (.there (.there (.there .here)))))) ?_
                  rintro ⟨a50, c51⟩
                  refine Ops.stB [.slice ua (((List.replicate (m + 1) (onceP 1)) ++ (ls.take k).map (fun l : CL => onceP (max 1 (l.1.2.length : Int)))).length) uc, .int .i64 1, .slice a50 (((((([] : List Syn) ++ selvesFrom 0 ((List.replicate (m + 1) (onceP 1)) ++ (ls.take k).map (fun l : CL => onceP (max 1 (l.1.2.length : Int)))).length) ++ clTo m (ls.map clP) q) ++ (xr.take j).map (fun t : Int => (⟨t, ((m + 1 + q : Nat) : Int), 1, 1⟩ : Syn))) ++ [(⟨((m + 1 + q : Nat) : Int), xt, 1, 1⟩ : Syn)]).length) c51] [.slice ua (((List.replicate (m + 1) (onceP 1)) ++ (ls.take k).map (fun l : CL => onceP (max 1 (l.1.2.length : Int)))).length) uc, .int .i64 1, .slice a50 (((((([] : List Syn) ++ selvesFrom 0 ((List.replicate (m + 1) (onceP 1)) ++ (ls.take k).map (fun l : CL => onceP (max 1 (l.1.2.length : Int)))).length) ++ clTo m (ls.map clP) q) ++ (xr.take j).map (fun t : Int => (⟨t, ((m + 1 + q : Nat) : Int), 1, 1⟩ : Syn))) ++ [(⟨((m + 1 + q : Nat) : Int), xt, 1, 1⟩ : Syn)]).length) c51] sz_32 rfl rfl rfl (one rfl) (.there .here) rfl rfl ?_
                  refine Ops.to rfl ?_
                  refine Cd.region ?_
                  refine Ops.q (q_mv rfl) ?_
                  refine Ops.q (q_ar rfl rfl (a_inc (by omega))) ?_
                  refine Ops.q (q_asg rfl) ?_
                  refine Ops.rnd ((q + 1, a50, c51)) rfl (by dsimp only; exact (by omega)) (by dsimp only; omega) ⟨rfl, rfl, rfl, rfl, rfl, trivial⟩ (fun _ hs => by have h1 := ((((hs.pull (.there (.there (.there .here)))).pull (.there .here)).pull (.there (.there (.there .here)))).pull (.there (.there (.there .here)))); rw [List.take_of_length_le (show xr.length ≤ j by omega)] at h1; dsimp only; rw [cl_stepN hxq (by omega) (by rw [if_neg (by omega)])]; exact h1) 
          · refine Ops.q (q_cmp rfl rfl (c_nlt (by omega))) ?_
            refine Ops.to rfl ?_
            refine Cd.cond_f rfl ?_
            refine Cd.exitTo rfl ?_
            refine Cd.seq ?_
            refine Cd.region ?_
            refine Ops.q (q_ldBN [.slice ua (((List.replicate (m + 1) (onceP 1)) ++ (ls.take k).map (fun l : CL => onceP (max 1 (l.1.2.length : Int)))).length) uc, .int .i64 1, .slice qa (((([] : List Syn) ++ selvesFrom 0 ((List.replicate (m + 1) (onceP 1)) ++ (ls.take k).map (fun l : CL => onceP (max 1 (l.1.2.length : Int)))).length) ++ clTo m (ls.map clP) q).length) qc] isA_32 sz_32 rfl .here rfl) ?_
            refine Ops.stB [.slice ua (((List.replicate (m + 1) (onceP 1)) ++ (ls.take k).map (fun l : CL => onceP (max 1 (l.1.2.length : Int)))).length) uc, .int .i64 1, .slice qa (((([] : List Syn) ++ selvesFrom 0 ((List.replicate (m + 1) (onceP 1)) ++ (ls.take k).map (fun l : CL => onceP (max 1 (l.1.2.length : Int)))).length) ++ clTo m (ls.map clP) q).length) qc] [.slice ua (((List.replicate (m + 1) (onceP 1)) ++ (ls.take k).map (fun l : CL => onceP (max 1 (l.1.2.length : Int)))).length) uc, .int .i64 1, .slice qa (((([] : List Syn) ++ selvesFrom 0 ((List.replicate (m + 1) (onceP 1)) ++ (ls.take k).map (fun l : CL => onceP (max 1 (l.1.2.length : Int)))).length) ++ clTo m (ls.map clP) q).length) qc] sz_32 rfl rfl rfl (one rfl) (.there (.there (.there .here))) rfl rfl ?_
            refine Ops.q (q_asg rfl) ?_
            refine Ops.to rfl ?_
            refine Cd.rt (fn := Try.f27) [.agg [.slice ua (((List.replicate (m + 1) (onceP 1)) ++ (ls.take k).map (fun l : CL => onceP (max 1 (l.1.2.length : Int)))).length) uc, .int .i64 1, .slice qa (((([] : List Syn) ++ selvesFrom 0 ((List.replicate (m + 1) (onceP 1)) ++ (ls.take k).map (fun l : CL => onceP (max 1 (l.1.2.length : Int)))).length) ++ clTo m (ls.map clP) q).length) qc].toArray, .int .i64 0] (by with_reducible repeat (first | exact rq_here | apply rq_then | apply rq_block)) rfl ⟨⟨_, _, rfl, fun _ hs => run_loadN isA_32 sz_32 (fun o u hu => Sat.atB (.there (.there (.there .here))) (by rw [Nat.zero_add]; exact hu) hs)⟩, rfl, trivial⟩ ?_
            intro w' hs'
            have hq : q = ls.length := by omega
            rw [hq, List.take_of_length_le (show ls.length ≤ k by omega)] at hs'
            have hP : hornP (m : Int) (ls.map clP) = .ok ⟨((List.replicate (m + 1) (onceP 1)) ++ ls.map (fun l : CL => onceP (max 1 (l.1.2.length : Int)))), 1, ((([] : List Syn) ++ selvesFrom 0 ((List.replicate (m + 1) (onceP 1)) ++ ls.map (fun l : CL => onceP (max 1 (l.1.2.length : Int)))).length) ++ clTo m (ls.map clP) ls.length)⟩ := by unfold hornP; rw [if_pos h2, if_neg (by rw [List.length_map]; omega), h9, if_neg (by decide)]; simp only [List.nil_append, List.length_append, List.length_map, List.length_replicate, List.map_map, Int.toNat_natCast]; rfl
            rw [hP]
            exact ⟨(ua, uc), (qa, qc), by rw [hq, List.take_of_length_le (show ls.length ≤ k by omega)]; rfl, ((((hs'.pull (.there (.there .here))).pull (.there (.there .here))).pull (.there (.there .here))).drop.pull (.there (.there .here))).drop⟩
  · refine Ops.cp en_59 rfl (fun w hs => dF (rwithin_c _ _ _ w) h2) ?_
    refine Ops.q (q_not rfl) ?_
    refine Ops.to rfl ?_
    refine Cd.cond_t rfl ?_
    refine Cd.seq ?_
    refine Cd.region ?_
    refine Ops.q (q_bld [.slice none 0 0, .int .i64 0, .slice none 0 0] pls_32 zc_32 rfl rfl) ?_
    refine Ops.stB [.slice none 0 0, .int .i64 0, .slice none 0 0] [.slice none 0 0, .int .i64 0, .slice none 0 0] sz_32 rfl rfl rfl (one rfl) .here rfl rfl ?_
    refine Ops.q (q_asg rfl) ?_
    refine Ops.to rfl ?_
    refine Cd.rt (fn := Try.f27) [.agg [.slice none 0 0, .int .i64 0, .slice none 0 0].toArray, .int .i64 3] (by with_reducible repeat (first | exact rq_here | apply rq_then | apply rq_block)) rfl ⟨⟨_, _, rfl, fun _ hs => run_loadN isA_32 sz_32 (fun o u hu => Sat.atB .here (by rw [Nat.zero_add]; exact hu) hs)⟩, rfl, trivial⟩ ?_
    intro w' hs'
    rw [show hornP n (ls.map clP) = .error 3 by unfold hornP; rw [if_neg h2]]
    exact ⟨rfl, hs'.none⟩
end Go.Proofs.Ytilcdghliigngaa
