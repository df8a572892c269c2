/- Part of a claim: the program logic, the contracts of the functions, their models. No condition. -/
import Derived.WalkKit
import Derived.OwnWalkIn
import Derived.TacticsInMore
import Derived.OrdersIn
import Derived.RangeFuncLeaves
import Derived.RangeFuncNested
import Derived.Maps.AppendAt
import Derived.Shelf.Abstract
import Derived.MapKept
import Derived.Laws.StructEq
import Derived.Laws.OwnMore
import Derived.RangeFuncRecord
import Derived.Lib.SliceRun
import Derived.Lib.AppendZeros
import Derived.Lib.AppendZerosOnto
import Derived.Lib.Overlaps
import Derived.Laws.Externs
import Derived.Maps.RangeRun
import Derived.Lib.AppendStr
import Derived.Laws.Pointers
import Derived.Laws.Small
import Derived.Laws.IdiomStrings
import Derived.Laws.Slices
import Derived.Test.YtilcdghliigngaaGreatDoorProg
import Derived.Test.YtilcdghliigngaaGreatDoorPk1
namespace Go.Proofs.YtilcdghliigngaaGreatDoorPm
set_option linter.unusedVariables false
set_option linter.unusedSimpArgs false
structure Prm where
  (lk leak bias th rk rs fl rest : Int)
  deriving DecidableEq
structure Syn where
  (src dst wt dl : Int)
  deriving DecidableEq
structure Evt where
  (tick id : Int)
  deriving DecidableEq
structure NetP where
  (ns : List Prm) (inp : Int) (ss : List Syn)
  deriving DecidableEq
structure Stt where
  (v rest : Int)
  deriving DecidableEq
structure Edg where
  (src dst len : Int)
  deriving DecidableEq
structure Tap where
  (inp wt dl : Int)
  deriving DecidableEq
def gateP (h : Int) : Prm := ⟨2, 256, 0, h, 0, 0, 0, 0⟩
def setTh (p : Prm) (h : Int) : Prm := { p with th := h }
end Go.Proofs.YtilcdghliigngaaGreatDoorPm
namespace Go.Proofs.YtilcdghliigngaaGreatDoor
set_option linter.unusedVariables false
set_option linter.unusedSimpArgs false
open Go.RowKit Go.Proofs.YtilcdghliigngaaGreatDoorGl Go.Proofs.YtilcdghliigngaaGreatDoorPm
def ePrm (p : Prm) : List Value := [.int .i64 p.lk, .int .i64 p.leak, .int .i64 p.bias, .int .i64 p.th, .int .i64 p.rk, .int .i64 p.rs, .int .i64 p.fl, .int .i64 p.rest]
def eSyn (s : Syn) : List Value := [.int .i64 s.src, .int .i64 s.dst, .int .i64 s.wt, .int .i64 s.dl]
def eEvt (e : Evt) : List Value := [.int .i64 e.tick, .int .i64 e.id]
def eStt (s : Stt) : List Value := [.int .i64 s.v, .int .i64 s.rest]
theorem ePrm_len (p : Prm) : (ePrm p).length = 8 := rfl
theorem eSyn_len (s : Syn) : (eSyn s).length = 4 := rfl
theorem eEvt_len (s : Evt) : (eEvt s).length = 2 := rfl
theorem eStt_len (s : Stt) : (eStt s).length = 2 := rfl
theorem ePrm_one (p : Prm) : ∀ u ∈ ePrm p, u.oneCell' = true := one rfl
theorem eEvt_one (p : Evt) : ∀ u ∈ eEvt p, u.oneCell' = true := one rfl
theorem eStt_one (p : Stt) : ∀ u ∈ eStt p, u.oneCell' = true := one rfl
theorem eInt_one (p : Int) : ∀ u ∈ eInt p, u.oneCell' = true := one rfl
theorem ebool {b : Bool} {p : Prop} [Decidable p] (h : b = true ↔ p) : Ending.returned (joinV [.bool b]) = .returned (.bool (decide p)) := by
  have : b = decide p := by cases b <;> simp_all
  rw [this]; rfl
theorem fm_app {α : Type} (f : α → List Value) (xs ys : List α) : (xs ++ ys).flatMap f = xs.flatMap f ++ ys.flatMap f := List.flatMap_append
abbrev bld (B : Nat) (na : Option Addr) (nc : Nat) (sa : Option Addr) (sc : Nat) (ns : List Prm) (ip : Int) (ss : List Syn) (F : List Atom) : List Atom :=
  blk B 60 [.slice na ns.length nc, .int .i64 ip, .slice sa ss.length sc] :: row na nc 62 8 ns.length (ns.flatMap ePrm) :: row sa sc 109 4 ss.length (ss.flatMap eSyn) :: F
end Go.Proofs.YtilcdghliigngaaGreatDoor
namespace Go.Proofs.YtilcdghliigngaaGreatDoor
open Go.RowKit Go.Proofs.YtilcdghliigngaaGreatDoorGl Go.Proofs.YtilcdghliigngaaGreatDoorPm
set_option linter.unusedVariables false
set_option linter.unusedSimpArgs false
theorem in_c (a b c : Int) (w : World) : Calls Tryz.prog 19 [.int .i64 a, .int .i64 b, .int .i64 c].toArray w fun e w' => e = .returned (.bool (decide (b ≤ a ∧ a ≤ c))) ∧ Sat w w' [] := by
  refine fstart Tryz.func19 rfl rfl (Sat.nil w) ?_
  refine Cd.seq ?_
  refine Cd.region ?_
  refine Ops.q (q_asg rfl) ?_
  refine Ops.to rfl ?_
  refine Cd.seq ?_
  refine Cd.region ?_
  refine Ops.q (q_mv rfl) ?_
  refine Ops.q (q_mv rfl) ?_
  by_cases h1 : b ≤ a
  · refine Ops.q (q_cmp rfl rfl (c_ge h1)) ?_
    refine Ops.q (q_mv rfl) ?_
    refine Ops.q (q_mv rfl) ?_
    refine Ops.q (q_mv rfl) ?_
    by_cases h2 : a ≤ c
    · refine Ops.q (q_cmp rfl rfl (c_le h2)) ?_
      refine Ops.q (q_pickT rfl rfl) ?_
      refine Ops.q (q_asg rfl) ?_
      refine Ops.to rfl ?_
      refine Cd.rt (fn := Tryz.f19) [.bool true] (by with_reducible repeat (first | exact rq_here | apply rq_then | apply rq_block)) rfl ⟨rfl, trivial⟩ ?_
      intro w' hs
      exact ⟨ebool (by simp; try omega), hs⟩
    · refine Ops.q (q_cmp rfl rfl (c_nle (by omega))) ?_
      refine Ops.q (q_pickT rfl rfl) ?_
      refine Ops.q (q_asg rfl) ?_
      refine Ops.to rfl ?_
      refine Cd.rt (fn := Tryz.f19) [.bool false] (by with_reducible repeat (first | exact rq_here | apply rq_then | apply rq_block)) rfl ⟨rfl, trivial⟩ ?_
      intro w' hs
      exact ⟨ebool (by simp; try omega), hs⟩
  · refine Ops.q (q_cmp rfl rfl (c_nge (by omega))) ?_
    refine Ops.q (q_mv rfl) ?_
    refine Ops.sk ?_
    refine Ops.sk ?_
    refine Ops.sk ?_
    refine Ops.q (q_pickF rfl rfl) ?_
    refine Ops.q (q_asg rfl) ?_
    refine Ops.to rfl ?_
    refine Cd.rt (fn := Tryz.f19) [.bool false] (by with_reducible repeat (first | exact rq_here | apply rq_then | apply rq_block)) rfl ⟨rfl, trivial⟩ ?_
    intro w' hs
    exact ⟨ebool (by simp; try omega), hs⟩
theorem nwithin_c (a b c : Int) (w : World) : Calls Tryz.prog 54 [.int .i64 a, .int .i64 b, .int .i64 c].toArray w fun e w' => e = .returned (.bool (decide (b ≤ a ∧ a ≤ c))) ∧ Sat w w' [] := by
  refine fstart Tryz.func54 rfl rfl (Sat.nil w) ?_
  refine Cd.seq ?_
  refine Cd.region ?_
  refine Ops.q (q_asg rfl) ?_
  refine Ops.to rfl ?_
  refine Cd.seq ?_
  refine Cd.region ?_
  refine Ops.q (q_mv rfl) ?_
  refine Ops.q (q_mv rfl) ?_
  by_cases h1 : b ≤ a
  · refine Ops.q (q_cmp rfl rfl (c_ge h1)) ?_
    refine Ops.q (q_mv rfl) ?_
    refine Ops.q (q_mv rfl) ?_
    refine Ops.q (q_mv rfl) ?_
    by_cases h2 : a ≤ c
    · refine Ops.q (q_cmp rfl rfl (c_le h2)) ?_
      refine Ops.q (q_pickT rfl rfl) ?_
      refine Ops.q (q_asg rfl) ?_
      refine Ops.to rfl ?_
      refine Cd.rt (fn := Tryz.f54) [.bool true] (by with_reducible repeat (first | exact rq_here | apply rq_then | apply rq_block)) rfl ⟨rfl, trivial⟩ ?_
      intro w' hs
      exact ⟨ebool (by simp; try omega), hs⟩
    · refine Ops.q (q_cmp rfl rfl (c_nle (by omega))) ?_
      refine Ops.q (q_pickT rfl rfl) ?_
      refine Ops.q (q_asg rfl) ?_
      refine Ops.to rfl ?_
      refine Cd.rt (fn := Tryz.f54) [.bool false] (by with_reducible repeat (first | exact rq_here | apply rq_then | apply rq_block)) rfl ⟨rfl, trivial⟩ ?_
      intro w' hs
      exact ⟨ebool (by simp; try omega), hs⟩
  · refine Ops.q (q_cmp rfl rfl (c_nge (by omega))) ?_
    refine Ops.q (q_mv rfl) ?_
    refine Ops.sk ?_
    refine Ops.sk ?_
    refine Ops.sk ?_
    refine Ops.q (q_pickF rfl rfl) ?_
    refine Ops.q (q_asg rfl) ?_
    refine Ops.to rfl ?_
    refine Cd.rt (fn := Tryz.f54) [.bool false] (by with_reducible repeat (first | exact rq_here | apply rq_then | apply rq_block)) rfl ⟨rfl, trivial⟩ ?_
    intro w' hs
    exact ⟨ebool (by simp; try omega), hs⟩
theorem uwithin_c (a b c : Int) (w : World) : Calls Tryz.prog 92 [.int .i64 a, .int .i64 b, .int .i64 c].toArray w fun e w' => e = .returned (.bool (decide (b ≤ a ∧ a ≤ c))) ∧ Sat w w' [] := by
  refine fstart Tryz.func92 rfl rfl (Sat.nil w) ?_
  refine Cd.seq ?_
  refine Cd.region ?_
  refine Ops.q (q_asg rfl) ?_
  refine Ops.to rfl ?_
  refine Cd.seq ?_
  refine Cd.region ?_
  refine Ops.q (q_mv rfl) ?_
  refine Ops.q (q_mv rfl) ?_
  by_cases h1 : b ≤ a
  · refine Ops.q (q_cmp rfl rfl (c_ge h1)) ?_
    refine Ops.q (q_mv rfl) ?_
    refine Ops.q (q_mv rfl) ?_
    refine Ops.q (q_mv rfl) ?_
    by_cases h2 : a ≤ c
    · refine Ops.q (q_cmp rfl rfl (c_le h2)) ?_
      refine Ops.q (q_pickT rfl rfl) ?_
      refine Ops.q (q_asg rfl) ?_
      refine Ops.to rfl ?_
      refine Cd.rt (fn := Tryz.f92) [.bool true] (by with_reducible repeat (first | exact rq_here | apply rq_then | apply rq_block)) rfl ⟨rfl, trivial⟩ ?_
      intro w' hs
      exact ⟨ebool (by simp; try omega), hs⟩
    · refine Ops.q (q_cmp rfl rfl (c_nle (by omega))) ?_
      refine Ops.q (q_pickT rfl rfl) ?_
      refine Ops.q (q_asg rfl) ?_
      refine Ops.to rfl ?_
      refine Cd.rt (fn := Tryz.f92) [.bool false] (by with_reducible repeat (first | exact rq_here | apply rq_then | apply rq_block)) rfl ⟨rfl, trivial⟩ ?_
      intro w' hs
      exact ⟨ebool (by simp; try omega), hs⟩
  · refine Ops.q (q_cmp rfl rfl (c_nge (by omega))) ?_
    refine Ops.q (q_mv rfl) ?_
    refine Ops.sk ?_
    refine Ops.sk ?_
    refine Ops.sk ?_
    refine Ops.q (q_pickF rfl rfl) ?_
    refine Ops.q (q_asg rfl) ?_
    refine Ops.to rfl ?_
    refine Cd.rt (fn := Tryz.f92) [.bool false] (by with_reducible repeat (first | exact rq_here | apply rq_then | apply rq_block)) rfl ⟨rfl, trivial⟩ ?_
    intro w' hs
    exact ⟨ebool (by simp; try omega), hs⟩
theorem gate_c (w : World) : Calls Tryz.prog 14 [].toArray w fun e w' => e = .returned (.agg (ePrm (gateP 0)).toArray) ∧ Sat w w' [] := by
  refine fstart Tryz.func14 rfl rfl (Sat.nil w) ?_
  refine Cd.seq ?_
  refine Cd.region ?_
  refine Ops.alc [.int .i64 0, .int .i64 0, .int .i64 0, .int .i64 0, .int .i64 0, .int .i64 0, .int .i64 0, .int .i64 0] zc_62 ?_
  intro b1
  refine Ops.to rfl ?_
  refine Cd.seq ?_
  refine Cd.region ?_
  refine Ops.q (q_bld [.int .i64 2, .int .i64 256, .int .i64 0, .int .i64 0, .int .i64 0, .int .i64 0, .int .i64 0, .int .i64 0] pls_62 zc_62 rfl rfl) ?_
  refine Ops.stB [.int .i64 2, .int .i64 256, .int .i64 0, .int .i64 0, .int .i64 0, .int .i64 0, .int .i64 0, .int .i64 0] [.int .i64 2, .int .i64 256, .int .i64 0, .int .i64 0, .int .i64 0, .int .i64 0, .int .i64 0, .int .i64 0] sz_62 rfl rfl rfl (one rfl) .here rfl rfl ?_
  refine Ops.to rfl ?_
  refine Cd.rt (fn := Tryz.f14) [.agg [.int .i64 2, .int .i64 256, .int .i64 0, .int .i64 0, .int .i64 0, .int .i64 0, .int .i64 0, .int .i64 0].toArray] (by with_reducible repeat (first | exact rq_here | apply rq_then | apply rq_block)) rfl ⟨⟨_, _, rfl, fun _ hs => run_loadN isA_62 sz_62 (fun o u hu => Sat.atB .here (by rw [Nat.zero_add]; exact hu) hs)⟩, trivial⟩ ?_
  intro w' hs
  exact ⟨rfl, hs.none⟩
theorem join_c (B : Nat) (na : Option Addr) (nc : Nat) (sa : Option Addr) (sc : Nat) (ns : List Prm) (ip : Int) (ss : List Syn) (f t d e : Int) (w0 w : World) (F : List Atom) (hm : ss.length < 10000000)
    (hs : Sat w0 w (bld B na nc sa sc ns ip ss F)) :
    Calls Tryz.prog 16 [.pointer (some ⟨B, 0, none⟩), .int .i64 f, .int .i64 t, .int .i64 d, .int .i64 e].toArray w fun en w' => ∃ p : Option Addr × Nat, en = .returned (.tuple #[]) ∧
      Sat w0 w' (bld B na nc p.1 p.2 ns ip (ss ++ [⟨f, t, d, e⟩]) F) := by
  refine fstart Tryz.func16 rfl rfl hs ?_
  refine Cd.region ?_
  refine Ops.q (q_mv rfl) ?_
  refine Ops.q (q_mv rfl) ?_
  refine Ops.q (q_nck rfl) ?_
  refine Ops.q (q_fa fo_60_0 rfl) ?_
  refine Ops.q (q_fa fo_40_2 rfl) ?_
  refine Ops.q (q_ldB isA_38 rfl .here rfl) ?_
  refine Ops.q (q_mv rfl) ?_
  refine Ops.q (q_mv rfl) ?_
  refine Ops.q (q_mv rfl) ?_
  refine Ops.q (q_mv rfl) ?_
  refine Ops.q (q_bld [.int .i64 f, .int .i64 t, .int .i64 d, .int .i64 e] pls_109 zc_109 rfl rfl) ?_
  refine Ops.lit [.int .i64 f, .int .i64 t, .int .i64 d, .int .i64 e] el_38 zsb_109 rfl rfl ⟨by decide, by decide⟩ rfl ?_
  intro b1
  refine Ops.app (news := [.int .i64 f, .int .i64 t, .int .i64 d, .int .i64 e]) el_38 zsb_109 (by decide) rfl rfl (fun _ hs => hs.ownRo .here) (fun _ hs => (hs.pull .here).drop) (fun _ _ => .p2) rfl (one rfl) (by omega) (by omega) ?_
  intro a2 c3
  refine Ops.q (q_nck rfl) ?_
  refine Ops.q (q_fa fo_60_0 rfl) ?_
  refine Ops.q (q_fa fo_40_2 rfl) ?_
  refine Ops.stB [.slice a2 (ss.length + 1) c3] [.slice na ns.length nc, .int .i64 ip, .slice a2 (ss.length + 1) c3] sz_38 rfl rfl rfl (one rfl) .here rfl rfl ?_
  refine Ops.fin rfl rfl ?_
  intro w' hs'
  refine ⟨(a2, c3), rfl, ?_⟩
  rw [bld, List.length_append, fm_app]; exact hs'
end Go.Proofs.YtilcdghliigngaaGreatDoor
namespace Go.Proofs.YtilcdghliigngaaGreatDoorPm
set_option linter.unusedVariables false
set_option linter.unusedSimpArgs false
def wi (a lo hi : Int) : Prop := lo ≤ a ∧ a ≤ hi
instance (a lo hi : Int) : Decidable (wi a lo hi) := inferInstanceAs (Decidable (_ ∧ _))
def limP (k : Int) : Int := if k = 0 then 0 else if k = 1 then 1048576 else if k = 2 then 256 else 0
def okP (k : Int) : Prop := k = 0 ∨ k = 1 ∨ k = 2
instance (k : Int) : Decidable (okP k) := inferInstanceAs (Decidable (_ ∨ _))
def nCheck (p : Prm) : Int :=
  if okP p.lk ∧ wi p.rk 0 1 then
    if wi p.leak (min 1 (limP p.lk)) (limP p.lk) ∧ wi p.bias (-1048576) 1048576 ∧ wi p.fl (-1048576) 0 ∧ wi p.th 1 1048576 ∧ wi p.rest 0 64 ∧
      wi p.rs (if p.rk = 1 then 0 else p.fl) (if p.rk = 1 then 0 else p.th - 1) then 0 else 3
  else 2
def nValid (p : Prm) (s : Stt) : Int :=
  if nCheck p ≠ 0 then nCheck p else if wi s.v p.fl 1048576 ∧ wi s.rest 0 p.rest then 0 else 3
def leakP (p : Prm) (v : Int) : Int :=
  if p.lk = 0 then v else if p.lk = 1 then (if v < 0 then min 0 (v + p.leak) else max 0 (v - p.leak)) else v - (v * p.leak).tdiv 256
def boundP (v lo hi : Int) : Int := max lo (min hi v)
def tickV (p : Prm) (v i : Int) : Int := boundP (leakP p v + p.bias + boundP i (-4194304) 4194304) p.fl 1048576
def tickP (p : Prm) (s : Stt) (i : Int) : Stt × Bool :=
  if nValid p s ≠ 0 then (⟨0, 0⟩, false)
  else if 0 < s.rest then (⟨s.v, s.rest - 1⟩, false)
  else if tickV p s.v i < p.th then (⟨tickV p s.v i, s.rest⟩, false)
  else if p.rk = 1 then (⟨tickV p s.v i - p.th, p.rest⟩, true)
  else (⟨p.rs, p.rest⟩, true)
end Go.Proofs.YtilcdghliigngaaGreatDoorPm
namespace Go.Proofs.YtilcdghliigngaaGreatDoorPm
theorem nCheck_ok {p : Prm} (h : nCheck p = 0) : okP p.lk ∧ wi p.rk 0 1 ∧ wi p.leak (min 1 (limP p.lk)) (limP p.lk) ∧ wi p.bias (-1048576) 1048576 ∧ wi p.fl (-1048576) 0 ∧ wi p.th 1 1048576 ∧ wi p.rest 0 64 ∧
      wi p.rs (if p.rk = 1 then 0 else p.fl) (if p.rk = 1 then 0 else p.th - 1) := by
  unfold nCheck at h
  grind
theorem nValid_ok {p : Prm} {s : Stt} (h : nValid p s = 0) : nCheck p = 0 ∧ wi s.v p.fl 1048576 ∧ wi s.rest 0 p.rest := by
  unfold nValid at h
  split at h
  · rename_i h1; exact absurd h h1
  · rename_i h1
    split at h
    · rename_i h2; exact ⟨by simpa using h1, h2⟩
    · cases h
theorem boundP_bd (v : Int) {lo hi : Int} (h : lo ≤ hi) : lo ≤ boundP v lo hi ∧ boundP v lo hi ≤ hi := by unfold boundP; omega
theorem leak_lim {p : Prm} (h : okP p.lk) (hl : wi p.leak (min 1 (limP p.lk)) (limP p.lk)) : (p.lk = 0 ∧ p.leak = 0) ∨ (p.lk = 1 ∧ 1 ≤ p.leak ∧ p.leak ≤ 1048576) ∨ (p.lk = 2 ∧ 1 ≤ p.leak ∧ p.leak ≤ 256) := by
  unfold wi limP at hl
  rcases h with h | h | h
  · left; simp [h] at hl; omega
  · right; left; simp [h] at hl; omega
  · right; right; simp [h] at hl; omega
end Go.Proofs.YtilcdghliigngaaGreatDoorPm
namespace Go.Proofs.YtilcdghliigngaaGreatDoorPm
def firstE {α : Type} (f : α → Int) : List α → Int
  | [] => 0
  | x :: xs => if f x = 0 then firstE f xs else f x
def synE (n : Nat) (ip : Int) (s : Syn) : Int := if wi s.src (-ip) ((n : Int) - 1) ∧ wi s.dst 0 ((n : Int) - 1) ∧ wi s.wt (-32768) 32768 ∧ wi s.dl 1 16 then 0 else 3
def netCheck (N : NetP) : Int :=
  if N.ns.length = 0 then 2
  else if 1024 < N.ns.length ∨ 256 < N.inp ∨ 8192 < N.ss.length then 9
  else if N.inp < 0 then 3
  else if firstE nCheck N.ns ≠ 0 then firstE nCheck N.ns
  else firstE (synE N.ns.length N.inp) N.ss
theorem drop_get {α : Type} {xs : List α} {k : Nat} {x : α} (h : xs[k]? = some x) : xs.drop k = x :: xs.drop (k + 1) := by
  obtain ⟨hk, he⟩ := List.getElem?_eq_some_iff.1 h
  rw [List.drop_eq_getElem_cons hk, he]
theorem firstE_step {α : Type} {f : α → Int} {xs : List α} {k : Nat} {x : α} (h : xs[k]? = some x) (hf : f x = 0) : firstE f (xs.drop k) = firstE f (xs.drop (k + 1)) := by
  rw [drop_get h, firstE, if_pos hf]
theorem firstE_stop {α : Type} {f : α → Int} {xs : List α} {k : Nat} {x : α} (h : xs[k]? = some x) (hf : f x ≠ 0) : firstE f (xs.drop k) = f x := by
  rw [drop_get h, firstE, if_neg hf]
theorem firstE_end {α : Type} {f : α → Int} {xs : List α} {k : Nat} (h : xs.length ≤ k) : firstE f (xs.drop k) = 0 := by
  rw [List.drop_eq_nil_of_le h]; rfl
def evBad (ip lim : Int) (e : Evt) : Prop := ¬ (wi e.tick 0 (lim - 1) ∧ wi e.id 0 (ip - 1))
instance (ip lim : Int) (e : Evt) : Decidable (evBad ip lim e) := inferInstanceAs (Decidable (¬ _))
def evNot (q e : Evt) : Prop := e.tick < q.tick ∨ e.tick = q.tick ∧ e.id ≤ q.id
instance (q e : Evt) : Decidable (evNot q e) := inferInstanceAs (Decidable (_ ∨ _))
def ordE (ip lim : Int) : Option Evt → List Evt → Int
  | _, [] => 0
  | none, e :: es => if evBad ip lim e then 3 else ordE ip lim (some e) es
  | some q, e :: es => if evBad ip lim e then 3 else if evNot q e then 2 else ordE ip lim (some e) es
def prevE (es : List Evt) (k : Nat) : Option Evt := if k = 0 then none else es[k - 1]?
def orderedE (ip lim : Int) (es : List Evt) : Int := if 65536 < es.length then 9 else ordE ip lim none es
def preparedE (N : NetP) (es : List Evt) (t lim : Int) : Int :=
  if netCheck N ≠ 0 then netCheck N else if wi t 0 lim then orderedE N.inp lim es else 3
end Go.Proofs.YtilcdghliigngaaGreatDoorPm
namespace Go.Proofs.YtilcdghliigngaaGreatDoorPm
theorem ord_step {ip lim : Int} {es : List Evt} {k : Nat} {x : Evt} (hx : es[k]? = some x) (hb : ¬ evBad ip lim x) (hn : ∀ q, prevE es k = some q → ¬ evNot q x) : ordE ip lim (prevE es k) (es.drop k) = ordE ip lim (prevE es (k + 1)) (es.drop (k + 1)) := by
  have h1 : prevE es (k + 1) = some x := by simpa [prevE] using hx
  rw [drop_get hx, h1]
  cases hp : prevE es k with
  | none => simp [ordE, hb]
  | some q => simp [ordE, hb, hn q hp]
theorem ord_bad {ip lim : Int} {es : List Evt} {k : Nat} {x : Evt} (hx : es[k]? = some x) (hb : evBad ip lim x) : ordE ip lim (prevE es k) (es.drop k) = 3 := by
  rw [drop_get hx]
  cases hp : prevE es k <;> simp [ordE, hb]
theorem ord_not {ip lim : Int} {es : List Evt} {k : Nat} {x q : Evt} (hx : es[k]? = some x) (hb : ¬ evBad ip lim x) (hq : prevE es k = some q) (hn : evNot q x) : ordE ip lim (prevE es k) (es.drop k) = 2 := by
  rw [drop_get hx, hq]; simp [ordE, hb, hn]
theorem ord_end {ip lim : Int} {es : List Evt} {k : Nat} (h : es.length ≤ k) : ordE ip lim (prevE es k) (es.drop k) = 0 := by
  rw [List.drop_eq_nil_of_le h]; cases prevE es k <;> rfl
theorem prevE_pos {es : List Evt} {k : Nat} {q : Evt} (h : 0 < (k : Int)) (hq : es[k - 1]? = some q) : prevE es k = some q := by
  unfold prevE; rw [if_neg (by omega)]; exact hq
theorem prevE_zero {es : List Evt} {k : Nat} (h : ¬ 0 < (k : Int)) : prevE es k = none := by
  unfold prevE; rw [if_pos (by omega)]
end Go.Proofs.YtilcdghliigngaaGreatDoorPm
namespace Go.Proofs.YtilcdghliigngaaGreatDoorPm
theorem takeWhile_eq {α : Type} {p : α → Bool} {xs : List α} {k : Nat} (h1 : ∀ x ∈ xs.take k, p x = true) (h2 : ∀ x, xs[k]? = some x → p x = false) : xs.takeWhile p = xs.take k ∧ xs.dropWhile p = xs.drop k := by
  induction xs generalizing k with
  | nil => simp
  | cons a xs ih =>
    cases k with
    | zero =>
      have := h2 a (by simp)
      simp [this]
    | succ k =>
      have ha := h1 a (by simp)
      have := ih (k := k) (fun x hx => h1 x (by simp [hx])) (fun x hx => h2 x (by simpa using hx))
      simp [ha, this.1, this.2]
end Go.Proofs.YtilcdghliigngaaGreatDoorPm
namespace Go.Proofs.YtilcdghliigngaaGreatDoorPm
def tickAll : List Prm → List Stt → List Int → List (Stt × Bool)
  | p :: ps, s :: ss, x :: xs => tickP p s x :: tickAll ps ss xs
  | _, _, _ => []
def fireI (i : Nat) : List (Stt × Bool) → List Int
  | [] => []
  | t :: ts => if t.2 then (i : Int) :: fireI (i + 1) ts else fireI (i + 1) ts
theorem tickAll_get : ∀ {ns : List Prm} {ss : List Stt} {xs : List Int} {k : Nat} {p : Prm} {s : Stt} {x : Int}, ns[k]? = some p → ss[k]? = some s → xs[k]? = some x → (tickAll ns ss xs)[k]? = some (tickP p s x)
  | [], _, _, k, p, s, x, h, _, _ => by simp at h
  | _ :: _, [], _, k, p, s, x, _, h, _ => by simp at h
  | _ :: _, _ :: _, [], k, p, s, x, _, _, h => by simp at h
  | p' :: ns, s' :: ss, x' :: xs, 0, p, s, x, h1, h2, h3 => by
    simp only [List.getElem?_cons_zero, Option.some.injEq] at h1 h2 h3
    subst h1; subst h2; subst h3; rfl
  | p' :: ns, s' :: ss, x' :: xs, k + 1, p, s, x, h1, h2, h3 => by
    simp only [List.getElem?_cons_succ] at h1 h2 h3
    simpa [tickAll] using tickAll_get h1 h2 h3
theorem tickAll_length : ∀ {ns : List Prm} {ss : List Stt} {xs : List Int}, ss.length = ns.length → xs.length = ns.length → (tickAll ns ss xs).length = ns.length
  | [], [], [], _, _ => rfl
  | p :: ns, s :: ss, x :: xs, h1, h2 => by
    simp only [tickAll, List.length_cons] at *
    rw [tickAll_length (by omega) (by omega)]
theorem fireI_app : ∀ (ts : List (Stt × Bool)) (i : Nat) (t : Stt × Bool), fireI i (ts ++ [t]) = fireI i ts ++ (if t.2 then [((i + ts.length : Nat) : Int)] else [])
  | [], i, t => by cases h : t.2 <;> simp [fireI, h]
  | a :: ts, i, t => by
    simp only [List.cons_append, fireI, fireI_app ts (i + 1) t, List.length_cons]
    rw [show i + 1 + ts.length = i + (ts.length + 1) by omega]
    split <;> simp
theorem fireI_take {T : List (Stt × Bool)} {k : Nat} {t : Stt × Bool} (h : T[k]? = some t) : fireI 0 (T.take (k + 1)) = fireI 0 (T.take k) ++ (if t.2 then [(k : Int)] else []) := by
  have hk := (List.getElem?_eq_some_iff.1 h).1
  rw [List.take_add_one, h]
  show fireI 0 (T.take k ++ [t]) = _
  rw [fireI_app, List.length_take, Nat.zero_add, Nat.min_eq_left (by omega)]
theorem fireI_len : ∀ (ts : List (Stt × Bool)) (i : Nat), (fireI i ts).length ≤ ts.length
  | [], _ => by simp [fireI]
  | t :: ts, i => by
    have := fireI_len ts (i + 1)
    simp only [fireI]; split <;> simp <;> omega
def midS (T : List (Stt × Bool)) (sts : List Stt) (k : Nat) : List Stt := (T.take k).map (·.1) ++ sts.drop k
theorem midS_len {T : List (Stt × Bool)} {sts : List Stt} {k : Nat} (h : T.length = sts.length) (hk : k ≤ sts.length) : (midS T sts k).length = sts.length := by
  simp [midS]; omega
theorem midS_get {T : List (Stt × Bool)} {sts : List Stt} {k : Nat} (h : T.length = sts.length) (hk : k ≤ sts.length) : (midS T sts k)[k]? = sts[k]? := by
  have e : ((T.take k).map (·.1)).length = k := by simp; omega
  rw [midS, List.getElem?_append_right (by omega), e, Nat.sub_self, List.getElem?_drop]; rfl
theorem midS_set {T : List (Stt × Bool)} {sts : List Stt} {k : Nat} {t : Stt × Bool} (ht : T[k]? = some t) (h : T.length = sts.length) : (midS T sts k).set k t.1 = midS T sts (k + 1) := by
  have hk := (List.getElem?_eq_some_iff.1 ht).1
  have e : ((T.take k).map (·.1)).length = k := by simp; omega
  obtain ⟨s, hs⟩ : ∃ s, sts[k]? = some s := ⟨_, List.getElem?_eq_getElem (by omega)⟩
  rw [midS, midS, List.set_append_right _ _ (by omega), e, Nat.sub_self, drop_get hs, List.take_add_one, ht]
  simp
end Go.Proofs.YtilcdghliigngaaGreatDoorPm
namespace Go.Proofs.YtilcdghliigngaaGreatDoorPm
theorem firstE_zero {α : Type} {f : α → Int} : ∀ {xs : List α}, firstE f xs = 0 → ∀ x ∈ xs, f x = 0
  | [], _, x, h => by cases h
  | y :: ys, h, x, hx => by
    by_cases hy : f y = 0
    · rw [firstE, if_pos hy] at h
      rcases List.mem_cons.1 hx with rfl | hx
      · exact hy
      · exact firstE_zero h x hx
    · rw [firstE, if_neg hy] at h; exact absurd h hy
theorem ordE_zero {ip lim : Int} : ∀ {es : List Evt} {p : Option Evt}, ordE ip lim p es = 0 → ∀ e ∈ es, ¬ evBad ip lim e
  | [], _, _, e, h => by cases h
  | x :: xs, p, h, e, he => by
    cases p with
    | none =>
      simp only [ordE] at h
      split at h
      · cases h
      · rename_i hb
        rcases List.mem_cons.1 he with rfl | he
        · exact hb
        · exact ordE_zero h e he
    | some q =>
      simp only [ordE] at h
      split at h
      · cases h
      · rename_i hb
        split at h
        · cases h
        · rcases List.mem_cons.1 he with rfl | he
          · exact hb
          · exact ordE_zero h e he
theorem netCheck_ok {ns : List Prm} {ip : Int} {ss : List Syn} (h : netCheck ⟨ns, ip, ss⟩ = 0) : 0 < ns.length ∧ ns.length ≤ 1024 ∧ ss.length ≤ 8192 ∧ 0 ≤ ip ∧ ip ≤ 256 ∧ (∀ p ∈ ns, nCheck p = 0) ∧ ∀ s ∈ ss, synE ns.length ip s = 0 := by
  unfold netCheck at h
  simp only [] at h
  split at h
  · cases h
  · split at h
    · cases h
    · split at h
      · cases h
      · split at h
        · rename_i h1; exact absurd h h1
        · rename_i h1 h2 h3 h4
          exact ⟨by omega, by omega, by omega, by omega, by omega, firstE_zero (by simpa using h4), firstE_zero h⟩
theorem synE_ok {n : Nat} {ip : Int} {s : Syn} (h : synE n ip s = 0) : wi s.src (-ip) ((n : Int) - 1) ∧ wi s.dst 0 ((n : Int) - 1) ∧ wi s.wt (-32768) 32768 ∧ wi s.dl 1 16 := by
  unfold synE at h; split at h
  · assumption
  · cases h
theorem prepared_ok {ns : List Prm} {ip : Int} {ss : List Syn} {evs : List Evt} {t lim : Int} (h : preparedE ⟨ns, ip, ss⟩ evs t lim = 0) : netCheck ⟨ns, ip, ss⟩ = 0 ∧ wi t 0 lim ∧ evs.length ≤ 65536 ∧ ∀ e ∈ evs, wi e.tick 0 (lim - 1) ∧ wi e.id 0 (ip - 1) := by
  unfold preparedE at h
  split at h
  · rename_i h1; exact absurd h h1
  · rename_i h1
    split at h
    · rename_i h2
      unfold orderedE at h
      split at h
      · cases h
      · rename_i h3
        refine ⟨by simpa using h1, h2, by omega, fun e he => ?_⟩
        have := ordE_zero h e he
        unfold evBad at this
        exact Decidable.of_not_not this
    · cases h
end Go.Proofs.YtilcdghliigngaaGreatDoorPm
namespace Go.Proofs.YtilcdghliigngaaGreatDoor
open Go.RowKit Go.Proofs.YtilcdghliigngaaGreatDoorGl Go.Proofs.YtilcdghliigngaaGreatDoorPm
set_option linter.unusedVariables false
set_option linter.unusedSimpArgs false
theorem dT {k : FuncId} {vs : Array Value} {w : World} {p : Prop} [Decidable p] (hc : Calls Tryz.prog k vs w fun e w' => e = .returned (.bool (decide p)) ∧ Sat w w' []) (h : p) : Calls Tryz.prog k vs w fun e w' => e = .returned (.bool true) ∧ Sat w w' [] := by
  rwa [decide_eq_true h] at hc
theorem dF {k : FuncId} {vs : Array Value} {w : World} {p : Prop} [Decidable p] (hc : Calls Tryz.prog k vs w fun e w' => e = .returned (.bool (decide p)) ∧ Sat w w' []) (h : ¬ p) : Calls Tryz.prog k vs w fun e w' => e = .returned (.bool false) ∧ Sat w w' [] := by
  rwa [decide_eq_false h] at hc
def fnK (k : Int) : Nat := if k = 0 then 115 else if k = 1 then 116 else 117
theorem leak1_c (p : Prm) (v : Int) (w : World) : Calls Tryz.prog 115 [.agg (ePrm p).toArray, .int .i64 v].toArray w fun e w' => e = .returned (.int .i64 v) ∧ Sat w w' [] := by
  refine fstart Tryz.func115 rfl rfl (Sat.nil w) ?_
  refine Cd.seq ?_
  refine Cd.region ?_
  refine Ops.box [.int .i64 p.lk, .int .i64 p.leak, .int .i64 p.bias, .int .i64 p.th, .int .i64 p.rk, .int .i64 p.rs, .int .i64 p.fl, .int .i64 p.rest] rfl rfl ?_
  intro b1
  refine Ops.q (q_asg rfl) ?_
  refine Ops.to rfl ?_
  refine Cd.seq ?_
  refine Cd.region ?_
  refine Ops.q (q_mv rfl) ?_
  refine Ops.q (q_asg rfl) ?_
  refine Ops.to rfl ?_
  refine Cd.rt (fn := Tryz.f115) [.int .i64 v] (by with_reducible repeat (first | exact rq_here | apply rq_then | apply rq_block)) rfl ⟨rfl, trivial⟩ ?_
  intro w' hs
  exact ⟨rfl, hs.none⟩
theorem leak2_c (p : Prm) (v : Int) (w : World) (hv : wi v (-1048576) 1048576) (hl : wi p.leak 0 1048576) : Calls Tryz.prog 116 [.agg (ePrm p).toArray, .int .i64 v].toArray w fun e w' => e = .returned (.int .i64 (if v < 0 then min 0 (v + p.leak) else max 0 (v - p.leak))) ∧ Sat w w' [] := by
  unfold wi at hv hl
  refine fstart Tryz.func116 rfl rfl (Sat.nil w) ?_
  refine Cd.seq ?_
  refine Cd.region ?_
  refine Ops.box [.int .i64 p.lk, .int .i64 p.leak, .int .i64 p.bias, .int .i64 p.th, .int .i64 p.rk, .int .i64 p.rs, .int .i64 p.fl, .int .i64 p.rest] rfl rfl ?_
  intro b1
  refine Ops.q (q_asg rfl) ?_
  refine Ops.to rfl ?_
  refine Cd.seq ?_
  refine Cd.seq ?_
  refine Cd.region ?_
  refine Ops.q (q_mv rfl) ?_
  by_cases h2 : v < 0
  · refine Ops.q (q_cmp rfl rfl (c_lt h2)) ?_
    refine Ops.to rfl ?_
    refine Cd.cond_t rfl ?_
    refine Cd.seq ?_
    refine Cd.region ?_
    refine Ops.q (q_mv rfl) ?_
    refine Ops.q (q_fa fo_62_1 rfl) ?_
    refine Ops.q (q_ldB isA_3 rfl .here rfl) ?_
    refine Ops.q (q_ar rfl rfl (a_add (by omega))) ?_
    refine Ops.q (q_min rfl rfl) ?_
    refine Ops.q (q_asg rfl) ?_
    refine Ops.to rfl ?_
    refine Cd.rt (fn := Tryz.f116) [.int .i64 (min 0 (v + p.leak))] (by with_reducible repeat (first | exact rq_here | apply rq_then | apply rq_block)) rfl ⟨rfl, trivial⟩ ?_
    intro w' hs
    exact ⟨by simp [joinV]; omega, hs.none⟩
  · refine Ops.q (q_cmp rfl rfl (c_nlt (by omega))) ?_
    refine Ops.to rfl ?_
    refine Cd.cond_f rfl ?_
    refine Cd.skipTo rfl ?_
    refine Cd.seq ?_
    refine Cd.region ?_
    refine Ops.q (q_mv rfl) ?_
    refine Ops.q (q_fa fo_62_1 rfl) ?_
    refine Ops.q (q_ldB isA_3 rfl .here rfl) ?_
    refine Ops.q (q_ar rfl rfl (a_sub (by omega))) ?_
    refine Ops.q (q_max rfl rfl) ?_
    refine Ops.q (q_asg rfl) ?_
    refine Ops.to rfl ?_
    refine Cd.rt (fn := Tryz.f116) [.int .i64 (max 0 (v - p.leak))] (by with_reducible repeat (first | exact rq_here | apply rq_then | apply rq_block)) rfl ⟨rfl, trivial⟩ ?_
    intro w' hs
    exact ⟨by simp [joinV]; omega, hs.none⟩
theorem a_quoT {i j : Int} (hj : j ≠ 0) (h : -9223372036854775808 ≤ i.tdiv j ∧ i.tdiv j ≤ 9223372036854775807) : arV .quo .i64 i j = some (i.tdiv j) := by
  simp only [arV, if_neg hj, IntWalk.i64_in _ h]
theorem tdiv256 {x : Int} (h : -536870912 ≤ x ∧ x ≤ 536870912) : -2097152 ≤ x.tdiv 256 ∧ x.tdiv 256 ≤ 2097152 := by
  rcases Int.le_total 0 x with h0 | h0
  · rw [Int.tdiv_eq_ediv_of_nonneg h0]; omega
  · have : x = -(-x) := by omega
    rw [this, Int.neg_tdiv, Int.tdiv_eq_ediv_of_nonneg (by omega)]; omega
theorem mul_box {v l : Int} (hv : -1048576 ≤ v ∧ v ≤ 1048576) (hl : 0 ≤ l ∧ l ≤ 256) : -536870912 ≤ v * l ∧ v * l ≤ 536870912 := by
  have h1 : (1048576 - v) * l ≥ 0 := Int.mul_nonneg (by omega) hl.1
  have h2 : (v + 1048576) * l ≥ 0 := Int.mul_nonneg (by omega) hl.1
  rw [Int.sub_mul] at h1
  rw [Int.add_mul] at h2
  omega
theorem leak3_c (p : Prm) (v : Int) (w : World) (hv : wi v (-1048576) 1048576) (hl : wi p.leak 0 256) : Calls Tryz.prog 117 [.agg (ePrm p).toArray, .int .i64 v].toArray w fun e w' => e = .returned (.int .i64 (v - (v * p.leak).tdiv 256)) ∧ Sat w w' [] := by
  unfold wi at hv hl
  have hm : -536870912 ≤ v * p.leak ∧ v * p.leak ≤ 536870912 := mul_box hv hl
  have hd := tdiv256 hm
  refine fstart Tryz.func117 rfl rfl (Sat.nil w) ?_
  refine Cd.seq ?_
  refine Cd.region ?_
  refine Ops.box [.int .i64 p.lk, .int .i64 p.leak, .int .i64 p.bias, .int .i64 p.th, .int .i64 p.rk, .int .i64 p.rs, .int .i64 p.fl, .int .i64 p.rest] rfl rfl ?_
  intro b1
  refine Ops.q (q_asg rfl) ?_
  refine Ops.to rfl ?_
  refine Cd.seq ?_
  refine Cd.region ?_
  refine Ops.q (q_mv rfl) ?_
  refine Ops.q (q_mv rfl) ?_
  refine Ops.q (q_fa fo_62_1 rfl) ?_
  refine Ops.q (q_ldB isA_3 rfl .here rfl) ?_
  refine Ops.q (q_ar rfl rfl (a_mul ⟨by omega, by omega⟩)) ?_
  refine Ops.q (q_ar rfl rfl (a_quoT (by decide) ⟨by omega, by omega⟩)) ?_
  refine Ops.q (q_ar rfl rfl (a_sub ⟨by omega, by omega⟩)) ?_
  refine Ops.q (q_asg rfl) ?_
  refine Ops.to rfl ?_
  refine Cd.rt (fn := Tryz.f117) [.int .i64 (v - (v * p.leak).tdiv 256)] (by with_reducible repeat (first | exact rq_here | apply rq_then | apply rq_block)) rfl ⟨rfl, trivial⟩ ?_
  intro w' hs
  exact ⟨rfl, hs.none⟩
theorem leaks_t {k : Int} (w : World) (h : okP k) : Calls Tryz.prog 91 [.int .i64 k].toArray w fun e w' => e = .returned (.tuple [.agg [.int .i64 (limP k), .func (.func (fnK k)) #[] #[]].toArray, .bool true].toArray) ∧ Sat w w' [] := by
  refine fstart Tryz.func91 rfl rfl (Sat.nil w) ?_
  refine Cd.seq ?_
  refine Cd.region ?_
  refine Ops.alc [.int .i64 0, .nilFunc] zc_165 ?_
  intro b1
  refine Ops.q (q_asg rfl) ?_
  refine Ops.to rfl ?_
  refine Cd.seq ?_
  refine Cd.seq ?_
  refine Cd.region ?_
  refine Ops.q (q_mv rfl) ?_
  refine Ops.to rfl ?_
  refine Cd.block ?_
  refine Cd.seq ?_
  refine Cd.region ?_
  by_cases h2 : k = 0
  · refine Ops.q (q_cmp rfl rfl (c_eq h2)) ?_
    refine Ops.q (q_asg rfl) ?_
    refine Ops.to rfl ?_
    refine Cd.cond_t rfl ?_
    refine Cd.seq ?_
    refine Cd.region ?_
    refine Ops.q (q_bld [.int .i64 0, .func (.func 115) [].toArray [].toArray] pls_165 zc_165 rfl rfl) ?_
    refine Ops.stB [.int .i64 0, .func (.func 115) [].toArray [].toArray] [.int .i64 0, .func (.func 115) [].toArray [].toArray] sz_165 rfl rfl rfl (one rfl) .here rfl rfl ?_
    refine Ops.q (q_asg rfl) ?_
    refine Ops.to rfl ?_
    refine Cd.rt (fn := Tryz.f91) [.agg [.int .i64 0, .func (.func 115) [].toArray [].toArray].toArray, .bool true] (by with_reducible repeat (first | exact rq_here | apply rq_then | apply rq_block)) rfl ⟨⟨_, _, rfl, fun _ hs => run_loadN isA_165 sz_165 (fun o u hu => Sat.atB .here (by rw [Nat.zero_add]; exact hu) hs)⟩, rfl, trivial⟩ ?_
    intro w' hs
    exact ⟨by simp [joinV, fnK, limP, *], hs.none⟩
  · refine Ops.q (q_cmp rfl rfl (c_neq h2)) ?_
    refine Ops.q (q_asg rfl) ?_
    refine Ops.to rfl ?_
    refine Cd.cond_f rfl ?_
    refine Cd.seq ?_
    refine Cd.region ?_
    by_cases h3 : k = 1
    · refine Ops.q (q_cmp rfl rfl (c_eq h3)) ?_
      refine Ops.q (q_asg rfl) ?_
      refine Ops.to rfl ?_
      refine Cd.cond_t rfl ?_
      refine Cd.seq ?_
      refine Cd.region ?_
      refine Ops.q (q_bld [.int .i64 1048576, .func (.func 116) [].toArray [].toArray] pls_165 zc_165 rfl rfl) ?_
      refine Ops.stB [.int .i64 1048576, .func (.func 116) [].toArray [].toArray] [.int .i64 1048576, .func (.func 116) [].toArray [].toArray] sz_165 rfl rfl rfl (one rfl) .here rfl rfl ?_
      refine Ops.q (q_asg rfl) ?_
      refine Ops.to rfl ?_
      refine Cd.rt (fn := Tryz.f91) [.agg [.int .i64 1048576, .func (.func 116) [].toArray [].toArray].toArray, .bool true] (by with_reducible repeat (first | exact rq_here | apply rq_then | apply rq_block)) rfl ⟨⟨_, _, rfl, fun _ hs => run_loadN isA_165 sz_165 (fun o u hu => Sat.atB .here (by rw [Nat.zero_add]; exact hu) hs)⟩, rfl, trivial⟩ ?_
      intro w' hs
      exact ⟨by simp [joinV, fnK, limP, *], hs.none⟩
    · refine Ops.q (q_cmp rfl rfl (c_neq h3)) ?_
      refine Ops.q (q_asg rfl) ?_
      refine Ops.to rfl ?_
      refine Cd.cond_f rfl ?_
      refine Cd.seq ?_
      refine Cd.region ?_
      by_cases h9 : k = 2
      · refine Ops.q (q_cmp rfl rfl (c_eq h9)) ?_
        refine Ops.q (q_asg rfl) ?_
        refine Ops.to rfl ?_
        refine Cd.cond_t rfl ?_
        refine Cd.seq ?_
        refine Cd.region ?_
        refine Ops.q (q_bld [.int .i64 256, .func (.func 117) [].toArray [].toArray] pls_165 zc_165 rfl rfl) ?_
        refine Ops.stB [.int .i64 256, .func (.func 117) [].toArray [].toArray] [.int .i64 256, .func (.func 117) [].toArray [].toArray] sz_165 rfl rfl rfl (one rfl) .here rfl rfl ?_
        refine Ops.q (q_asg rfl) ?_
        refine Ops.to rfl ?_
        refine Cd.rt (fn := Tryz.f91) [.agg [.int .i64 256, .func (.func 117) [].toArray [].toArray].toArray, .bool true] (by with_reducible repeat (first | exact rq_here | apply rq_then | apply rq_block)) rfl ⟨⟨_, _, rfl, fun _ hs => run_loadN isA_165 sz_165 (fun o u hu => Sat.atB .here (by rw [Nat.zero_add]; exact hu) hs)⟩, rfl, trivial⟩ ?_
        intro w' hs
        exact ⟨by simp [joinV, fnK, limP, *], hs.none⟩
      · unfold okP at h; omega
theorem leaks_f {k : Int} (w : World) (h : ¬ okP k) : Calls Tryz.prog 91 [.int .i64 k].toArray w fun e w' => e = .returned (.tuple [.agg [.int .i64 (limP k), .nilFunc].toArray, .bool false].toArray) ∧ Sat w w' [] := by
  have h0 : ¬ k = 0 ∧ ¬ k = 1 ∧ ¬ k = 2 := by unfold okP at h; omega
  obtain ⟨h01, h02, h03⟩ := h0
  refine fstart Tryz.func91 rfl rfl (Sat.nil w) ?_
  refine Cd.seq ?_
  refine Cd.region ?_
  refine Ops.alc [.int .i64 0, .nilFunc] zc_165 ?_
  intro b1
  refine Ops.q (q_asg rfl) ?_
  refine Ops.to rfl ?_
  refine Cd.seq ?_
  refine Cd.seq ?_
  refine Cd.region ?_
  refine Ops.q (q_mv rfl) ?_
  refine Ops.to rfl ?_
  refine Cd.block ?_
  refine Cd.seq ?_
  refine Cd.region ?_
  refine Ops.q (q_cmp rfl rfl (c_neq (fun e => h (.inl e)))) ?_
  refine Ops.q (q_asg rfl) ?_
  refine Ops.to rfl ?_
  refine Cd.cond_f rfl ?_
  refine Cd.seq ?_
  refine Cd.region ?_
  refine Ops.q (q_cmp rfl rfl (c_neq (fun e => h (.inr (.inl e))))) ?_
  refine Ops.q (q_asg rfl) ?_
  refine Ops.to rfl ?_
  refine Cd.cond_f rfl ?_
  refine Cd.seq ?_
  refine Cd.region ?_
  refine Ops.q (q_cmp rfl rfl (c_neq (fun e => h (.inr (.inr e))))) ?_
  refine Ops.q (q_asg rfl) ?_
  refine Ops.to rfl ?_
  refine Cd.cond_f rfl ?_
  refine Cd.skipTo rfl ?_
  refine Cd.seq ?_
  refine Cd.region ?_
  refine Ops.q (q_bld [.int .i64 0, .nilFunc] pls_165 zc_165 rfl rfl) ?_
  refine Ops.stB [.int .i64 0, .nilFunc] [.int .i64 0, .nilFunc] sz_165 rfl rfl rfl (one rfl) .here rfl rfl ?_
  refine Ops.q (q_asg rfl) ?_
  refine Ops.to rfl ?_
  refine Cd.rt (fn := Tryz.f91) [.agg [.int .i64 0, .nilFunc].toArray, .bool false] (by with_reducible repeat (first | exact rq_here | apply rq_then | apply rq_block)) rfl ⟨⟨_, _, rfl, fun _ hs => run_loadN isA_165 sz_165 (fun o u hu => Sat.atB .here (by rw [Nat.zero_add]; exact hu) hs)⟩, rfl, trivial⟩ ?_
  intro w' hs
  exact ⟨by simp [joinV, limP, *], hs.none⟩
theorem ncheck_c (p : Prm) (w : World) : Calls Tryz.prog 52 [.agg (ePrm p).toArray].toArray w fun e w' => e = .returned (.int .i64 (nCheck p)) ∧ Sat w w' [] := by
  have hw : 1 ≤ p.th ∧ p.th ≤ 1048576 → IntKind.i64.wrap (p.th - 1) = p.th - 1 := fun h => IntWalk.i64_in _ (by omega)
  refine fstart Tryz.func52 rfl rfl (Sat.nil w) ?_
  refine Cd.seq ?_
  refine Cd.region ?_
  refine Ops.box [.int .i64 p.lk, .int .i64 p.leak, .int .i64 p.bias, .int .i64 p.th, .int .i64 p.rk, .int .i64 p.rs, .int .i64 p.fl, .int .i64 p.rest] rfl rfl ?_
  intro b1
  refine Ops.q (q_asg rfl) ?_
  refine Ops.to rfl ?_
  refine Cd.seq ?_
  refine Cd.region ?_
  refine Ops.q (q_fa fo_62_0 rfl) ?_
  refine Ops.q (q_ldB isA_3 rfl .here rfl) ?_
  by_cases h2 : okP p.lk
  · refine Ops.cp en_91 rfl (fun w hs => leaks_t w h2) ?_
    refine Ops.q (q_mv rfl) ?_
    refine Ops.q (q_ext rfl rfl) ?_
    refine Ops.q (q_ext rfl rfl) ?_
    refine Ops.alc [.int .i64 0, .nilFunc] zc_165 ?_
    intro b3
    refine Ops.stB [.int .i64 (limP p.lk), .func (.func (fnK p.lk)) #[] #[]] [.int .i64 (limP p.lk), .func (.func (fnK p.lk)) #[] #[]] sz_165 rfl rfl rfl (one rfl) .here rfl rfl ?_
    refine Ops.q (q_asg rfl) ?_
    refine Ops.to rfl ?_
    refine Cd.seq ?_
    refine Cd.seq ?_
    refine Cd.region ?_
    refine Ops.q (q_mv rfl) ?_
    refine Ops.q (q_not rfl) ?_
    refine Ops.q (q_mv rfl) ?_
    refine Ops.q (q_fa fo_62_4 rfl) ?_
    refine Ops.q (q_ldB isA_3 rfl (.there .here) rfl) ?_
    by_cases h4 : wi p.rk 0 1
    · refine Ops.cp en_92 rfl (fun w hs => dT (uwithin_c _ _ _ w) h4) ?_
      refine Ops.q (q_not rfl) ?_
      refine Ops.q (q_pickF rfl rfl) ?_
      refine Ops.to rfl ?_
      refine Cd.cond_f rfl ?_
      refine Cd.skipTo rfl ?_
      refine Cd.seq ?_
      refine Cd.draw rfl (by kernel_rfl) (.cons (.there .here) .nil) ?_
      intro F5 St6 hP7 hF8 hR9
      refine Dr.q (i := 0) hP7 rfl (by kernel_rfl) (q_fa fo_62_6 rfl) ?_
      refine Dr.q (i := 1) hP7 rfl (by kernel_rfl) (q_ldB isA_3 rfl .here rfl) ?_
      refine Dr.q (i := 2) hP7 rfl (by kernel_rfl) (q_fa fo_62_3 rfl) ?_
      refine Dr.q (i := 3) hP7 rfl (by kernel_rfl) (q_ldB isA_3 rfl .here rfl) ?_
      refine Dr.q (i := 4) hP7 rfl (by kernel_rfl) (q_ar rfl rfl (rfl)) ?_
      refine Dr.q (i := 5) hP7 rfl (by kernel_rfl) (q_asg rfl) ?_
      refine Dr.tail 6 (by kernel_rfl) ?_
      refine Ops.sat ?_ (fun _ hs => hR9 .here hs)
      refine Ops.q (q_asg rfl) ?_
      refine Ops.to rfl ?_
      refine Cd.seq ?_
      refine Cd.seq ?_
      refine Cd.region ?_
      refine Ops.q (q_fa fo_62_4 rfl) ?_
      refine Ops.q (q_ldB isA_3 rfl .here rfl) ?_
      by_cases h10 : p.rk = 1
      · refine Ops.q (q_cmp rfl rfl (c_eq h10)) ?_
        refine Ops.to rfl ?_
        refine Cd.cond_t rfl ?_
        refine Cd.region ?_
        refine Ops.q (q_asg rfl) ?_
        refine Ops.q (q_asg rfl) ?_
        refine Ops.to rfl ?_
        refine Cd.seq ?_
        refine Cd.seq ?_
        refine Cd.region ?_
        refine Ops.q (q_fa fo_62_1 rfl) ?_
        refine Ops.q (q_ldB isA_3 rfl .here rfl) ?_
        refine Ops.q (q_fa fo_165_0 rfl) ?_
        refine Ops.q (q_ldB isA_3 rfl (.there .here) rfl) ?_
        refine Ops.q (q_min rfl rfl) ?_
        refine Ops.q (q_fa fo_165_0 rfl) ?_
        refine Ops.q (q_ldB isA_3 rfl (.there .here) rfl) ?_
        by_cases h11 : wi p.leak (min 1 (limP p.lk)) (limP p.lk)
        · refine Ops.cp en_92 rfl (fun w hs => dT (uwithin_c _ _ _ w) h11) ?_
          refine Ops.q (q_not rfl) ?_
          refine Ops.q (q_mv rfl) ?_
          refine Ops.q (q_fa fo_62_2 rfl) ?_
          refine Ops.q (q_ldB isA_3 rfl .here rfl) ?_
          by_cases h12 : wi p.bias (-1048576) 1048576
          · refine Ops.cp en_92 rfl (fun w hs => dT (uwithin_c _ _ _ w) h12) ?_
            refine Ops.q (q_not rfl) ?_
            refine Ops.q (q_pickF rfl rfl) ?_
            refine Ops.q (q_mv rfl) ?_
            refine Ops.q (q_fa fo_62_6 rfl) ?_
            refine Ops.q (q_ldB isA_3 rfl .here rfl) ?_
            by_cases h13 : wi p.fl (-1048576) 0
            · refine Ops.cp en_92 rfl (fun w hs => dT (uwithin_c _ _ _ w) h13) ?_
              refine Ops.q (q_not rfl) ?_
              refine Ops.q (q_pickF rfl rfl) ?_
              refine Ops.q (q_mv rfl) ?_
              refine Ops.q (q_fa fo_62_3 rfl) ?_
              refine Ops.q (q_ldB isA_3 rfl .here rfl) ?_
              by_cases h14 : wi p.th 1 1048576
              · refine Ops.cp en_92 rfl (fun w hs => dT (uwithin_c _ _ _ w) h14) ?_
                refine Ops.q (q_not rfl) ?_
                refine Ops.q (q_pickF rfl rfl) ?_
                refine Ops.q (q_mv rfl) ?_
                refine Ops.q (q_fa fo_62_7 rfl) ?_
                refine Ops.q (q_ldB isA_3 rfl .here rfl) ?_
                by_cases h15 : wi p.rest 0 64
                · refine Ops.cp en_92 rfl (fun w hs => dT (uwithin_c _ _ _ w) h15) ?_
                  refine Ops.q (q_not rfl) ?_
                  refine Ops.q (q_pickF rfl rfl) ?_
                  refine Ops.q (q_mv rfl) ?_
                  refine Ops.q (q_fa fo_62_5 rfl) ?_
                  refine Ops.q (q_ldB isA_3 rfl .here rfl) ?_
                  refine Ops.q (q_mv rfl) ?_
                  refine Ops.q (q_mv rfl) ?_
                  by_cases h16 : wi p.rs 0 0
                  · refine Ops.cp en_92 rfl (fun w hs => dT (uwithin_c _ _ _ w) h16) ?_
                    refine Ops.q (q_not rfl) ?_
                    refine Ops.q (q_pickF rfl rfl) ?_
                    refine Ops.to rfl ?_
                    refine Cd.cond_f rfl ?_
                    refine Cd.skipTo rfl ?_
                    refine Cd.seq ?_
                    refine Cd.region ?_
                    refine Ops.q (q_asg rfl) ?_
                    refine Ops.to rfl ?_
                    refine Cd.rt (fn := Tryz.f52) [.int .i64 0] (by with_reducible repeat (first | exact rq_here | apply rq_then | apply rq_block)) rfl ⟨rfl, trivial⟩ ?_
                    intro w' hs
                    exact ⟨by unfold nCheck; simp only [joinV]; unfold wi at *; grind, hs.none⟩
                  · refine Ops.cp en_92 rfl (fun w hs => dF (uwithin_c _ _ _ w) h16) ?_
                    refine Ops.q (q_not rfl) ?_
                    refine Ops.q (q_pickF rfl rfl) ?_
                    refine Ops.to rfl ?_
                    refine Cd.cond_t rfl ?_
                    refine Cd.seq ?_
                    refine Cd.region ?_
                    refine Ops.q (q_asg rfl) ?_
                    refine Ops.to rfl ?_
                    refine Cd.rt (fn := Tryz.f52) [.int .i64 3] (by with_reducible repeat (first | exact rq_here | apply rq_then | apply rq_block)) rfl ⟨rfl, trivial⟩ ?_
                    intro w' hs
                    exact ⟨by unfold nCheck; simp only [joinV]; unfold wi at *; grind, hs.none⟩
                · refine Ops.cp en_92 rfl (fun w hs => dF (uwithin_c _ _ _ w) h15) ?_
                  refine Ops.q (q_not rfl) ?_
                  refine Ops.q (q_pickF rfl rfl) ?_
                  refine Ops.q (q_mv rfl) ?_
                  refine Ops.sk ?_
                  refine Ops.sk ?_
                  refine Ops.sk ?_
                  refine Ops.sk ?_
                  refine Ops.sk ?_
                  refine Ops.sk ?_
                  refine Ops.q (q_pickT rfl rfl) ?_
                  refine Ops.to rfl ?_
                  refine Cd.cond_t rfl ?_
                  refine Cd.seq ?_
                  refine Cd.region ?_
                  refine Ops.q (q_asg rfl) ?_
                  refine Ops.to rfl ?_
                  refine Cd.rt (fn := Tryz.f52) [.int .i64 3] (by with_reducible repeat (first | exact rq_here | apply rq_then | apply rq_block)) rfl ⟨rfl, trivial⟩ ?_
                  intro w' hs
                  exact ⟨by unfold nCheck; simp only [joinV]; unfold wi at *; grind, hs.none⟩
              · refine Ops.cp en_92 rfl (fun w hs => dF (uwithin_c _ _ _ w) h14) ?_
                refine Ops.q (q_not rfl) ?_
                refine Ops.q (q_pickF rfl rfl) ?_
                refine Ops.q (q_mv rfl) ?_
                refine Ops.sk ?_
                refine Ops.sk ?_
                refine Ops.sk ?_
                refine Ops.sk ?_
                refine Ops.q (q_pickT rfl rfl) ?_
                refine Ops.q (q_mv rfl) ?_
                refine Ops.sk ?_
                refine Ops.sk ?_
                refine Ops.sk ?_
                refine Ops.sk ?_
                refine Ops.sk ?_
                refine Ops.sk ?_
                refine Ops.q (q_pickT rfl rfl) ?_
                refine Ops.to rfl ?_
                refine Cd.cond_t rfl ?_
                refine Cd.seq ?_
                refine Cd.region ?_
                refine Ops.q (q_asg rfl) ?_
                refine Ops.to rfl ?_
                refine Cd.rt (fn := Tryz.f52) [.int .i64 3] (by with_reducible repeat (first | exact rq_here | apply rq_then | apply rq_block)) rfl ⟨rfl, trivial⟩ ?_
                intro w' hs
                exact ⟨by unfold nCheck; simp only [joinV]; unfold wi at *; grind, hs.none⟩
            · refine Ops.cp en_92 rfl (fun w hs => dF (uwithin_c _ _ _ w) h13) ?_
              refine Ops.q (q_not rfl) ?_
              refine Ops.q (q_pickF rfl rfl) ?_
              refine Ops.q (q_mv rfl) ?_
              refine Ops.sk ?_
              refine Ops.sk ?_
              refine Ops.sk ?_
              refine Ops.sk ?_
              refine Ops.q (q_pickT rfl rfl) ?_
              refine Ops.q (q_mv rfl) ?_
              refine Ops.sk ?_
              refine Ops.sk ?_
              refine Ops.sk ?_
              refine Ops.sk ?_
              refine Ops.q (q_pickT rfl rfl) ?_
              refine Ops.q (q_mv rfl) ?_
              refine Ops.sk ?_
              refine Ops.sk ?_
              refine Ops.sk ?_
              refine Ops.sk ?_
              refine Ops.sk ?_
              refine Ops.sk ?_
              refine Ops.q (q_pickT rfl rfl) ?_
              refine Ops.to rfl ?_
              refine Cd.cond_t rfl ?_
              refine Cd.seq ?_
              refine Cd.region ?_
              refine Ops.q (q_asg rfl) ?_
              refine Ops.to rfl ?_
              refine Cd.rt (fn := Tryz.f52) [.int .i64 3] (by with_reducible repeat (first | exact rq_here | apply rq_then | apply rq_block)) rfl ⟨rfl, trivial⟩ ?_
              intro w' hs
              exact ⟨by unfold nCheck; simp only [joinV]; unfold wi at *; grind, hs.none⟩
          · refine Ops.cp en_92 rfl (fun w hs => dF (uwithin_c _ _ _ w) h12) ?_
            refine Ops.q (q_not rfl) ?_
            refine Ops.q (q_pickF rfl rfl) ?_
            refine Ops.q (q_mv rfl) ?_
            refine Ops.sk ?_
            refine Ops.sk ?_
            refine Ops.sk ?_
            refine Ops.sk ?_
            refine Ops.q (q_pickT rfl rfl) ?_
            refine Ops.q (q_mv rfl) ?_
            refine Ops.sk ?_
            refine Ops.sk ?_
            refine Ops.sk ?_
            refine Ops.sk ?_
            refine Ops.q (q_pickT rfl rfl) ?_
            refine Ops.q (q_mv rfl) ?_
            refine Ops.sk ?_
            refine Ops.sk ?_
            refine Ops.sk ?_
            refine Ops.sk ?_
            refine Ops.q (q_pickT rfl rfl) ?_
            refine Ops.q (q_mv rfl) ?_
            refine Ops.sk ?_
            refine Ops.sk ?_
            refine Ops.sk ?_
            refine Ops.sk ?_
            refine Ops.sk ?_
            refine Ops.sk ?_
            refine Ops.q (q_pickT rfl rfl) ?_
            refine Ops.to rfl ?_
            refine Cd.cond_t rfl ?_
            refine Cd.seq ?_
            refine Cd.region ?_
            refine Ops.q (q_asg rfl) ?_
            refine Ops.to rfl ?_
            refine Cd.rt (fn := Tryz.f52) [.int .i64 3] (by with_reducible repeat (first | exact rq_here | apply rq_then | apply rq_block)) rfl ⟨rfl, trivial⟩ ?_
            intro w' hs
            exact ⟨by unfold nCheck; simp only [joinV]; unfold wi at *; grind, hs.none⟩
        · refine Ops.cp en_92 rfl (fun w hs => dF (uwithin_c _ _ _ w) h11) ?_
          refine Ops.q (q_not rfl) ?_
          refine Ops.q (q_mv rfl) ?_
          refine Ops.sk ?_
          refine Ops.sk ?_
          refine Ops.sk ?_
          refine Ops.sk ?_
          refine Ops.q (q_pickT rfl rfl) ?_
          refine Ops.q (q_mv rfl) ?_
          refine Ops.sk ?_
          refine Ops.sk ?_
          refine Ops.sk ?_
          refine Ops.sk ?_
          refine Ops.q (q_pickT rfl rfl) ?_
          refine Ops.q (q_mv rfl) ?_
          refine Ops.sk ?_
          refine Ops.sk ?_
          refine Ops.sk ?_
          refine Ops.sk ?_
          refine Ops.q (q_pickT rfl rfl) ?_
          refine Ops.q (q_mv rfl) ?_
          refine Ops.sk ?_
          refine Ops.sk ?_
          refine Ops.sk ?_
          refine Ops.sk ?_
          refine Ops.q (q_pickT rfl rfl) ?_
          refine Ops.q (q_mv rfl) ?_
          refine Ops.sk ?_
          refine Ops.sk ?_
          refine Ops.sk ?_
          refine Ops.sk ?_
          refine Ops.sk ?_
          refine Ops.sk ?_
          refine Ops.q (q_pickT rfl rfl) ?_
          refine Ops.to rfl ?_
          refine Cd.cond_t rfl ?_
          refine Cd.seq ?_
          refine Cd.region ?_
          refine Ops.q (q_asg rfl) ?_
          refine Ops.to rfl ?_
          refine Cd.rt (fn := Tryz.f52) [.int .i64 3] (by with_reducible repeat (first | exact rq_here | apply rq_then | apply rq_block)) rfl ⟨rfl, trivial⟩ ?_
          intro w' hs
          exact ⟨by unfold nCheck; simp only [joinV]; unfold wi at *; grind, hs.none⟩
      · refine Ops.q (q_cmp rfl rfl (c_neq h10)) ?_
        refine Ops.to rfl ?_
        refine Cd.cond_f rfl ?_
        refine Cd.skipTo rfl ?_
        refine Cd.seq ?_
        refine Cd.seq ?_
        refine Cd.region ?_
        refine Ops.q (q_fa fo_62_1 rfl) ?_
        refine Ops.q (q_ldB isA_3 rfl .here rfl) ?_
        refine Ops.q (q_fa fo_165_0 rfl) ?_
        refine Ops.q (q_ldB isA_3 rfl (.there .here) rfl) ?_
        refine Ops.q (q_min rfl rfl) ?_
        refine Ops.q (q_fa fo_165_0 rfl) ?_
        refine Ops.q (q_ldB isA_3 rfl (.there .here) rfl) ?_
        by_cases h17 : wi p.leak (min 1 (limP p.lk)) (limP p.lk)
        · refine Ops.cp en_92 rfl (fun w hs => dT (uwithin_c _ _ _ w) h17) ?_
          refine Ops.q (q_not rfl) ?_
          refine Ops.q (q_mv rfl) ?_
          refine Ops.q (q_fa fo_62_2 rfl) ?_
          refine Ops.q (q_ldB isA_3 rfl .here rfl) ?_
          by_cases h18 : wi p.bias (-1048576) 1048576
          · refine Ops.cp en_92 rfl (fun w hs => dT (uwithin_c _ _ _ w) h18) ?_
            refine Ops.q (q_not rfl) ?_
            refine Ops.q (q_pickF rfl rfl) ?_
            refine Ops.q (q_mv rfl) ?_
            refine Ops.q (q_fa fo_62_6 rfl) ?_
            refine Ops.q (q_ldB isA_3 rfl .here rfl) ?_
            by_cases h19 : wi p.fl (-1048576) 0
            · refine Ops.cp en_92 rfl (fun w hs => dT (uwithin_c _ _ _ w) h19) ?_
              refine Ops.q (q_not rfl) ?_
              refine Ops.q (q_pickF rfl rfl) ?_
              refine Ops.q (q_mv rfl) ?_
              refine Ops.q (q_fa fo_62_3 rfl) ?_
              refine Ops.q (q_ldB isA_3 rfl .here rfl) ?_
              by_cases h20 : wi p.th 1 1048576
              · refine Ops.cp en_92 rfl (fun w hs => dT (uwithin_c _ _ _ w) h20) ?_
                refine Ops.q (q_not rfl) ?_
                refine Ops.q (q_pickF rfl rfl) ?_
                refine Ops.q (q_mv rfl) ?_
                refine Ops.q (q_fa fo_62_7 rfl) ?_
                refine Ops.q (q_ldB isA_3 rfl .here rfl) ?_
                by_cases h21 : wi p.rest 0 64
                · refine Ops.cp en_92 rfl (fun w hs => dT (uwithin_c _ _ _ w) h21) ?_
                  refine Ops.q (q_not rfl) ?_
                  refine Ops.q (q_pickF rfl rfl) ?_
                  refine Ops.q (q_mv rfl) ?_
                  refine Ops.q (q_fa fo_62_5 rfl) ?_
                  refine Ops.q (q_ldB isA_3 rfl .here rfl) ?_
                  refine Ops.q (q_mv rfl) ?_
                  refine Ops.q (q_mv rfl) ?_
                  by_cases h22 : wi p.rs p.fl (IntKind.i64.wrap (p.th - 1))
                  · refine Ops.cp en_92 rfl (fun w hs => dT (uwithin_c _ _ _ w) h22) ?_
                    refine Ops.q (q_not rfl) ?_
                    refine Ops.q (q_pickF rfl rfl) ?_
                    refine Ops.to rfl ?_
                    refine Cd.cond_f rfl ?_
                    refine Cd.skipTo rfl ?_
                    refine Cd.seq ?_
                    refine Cd.region ?_
                    refine Ops.q (q_asg rfl) ?_
                    refine Ops.to rfl ?_
                    refine Cd.rt (fn := Tryz.f52) [.int .i64 0] (by with_reducible repeat (first | exact rq_here | apply rq_then | apply rq_block)) rfl ⟨rfl, trivial⟩ ?_
                    intro w' hs
                    exact ⟨by unfold nCheck; simp only [joinV]; unfold wi at *; grind, hs.none⟩
                  · refine Ops.cp en_92 rfl (fun w hs => dF (uwithin_c _ _ _ w) h22) ?_
                    refine Ops.q (q_not rfl) ?_
                    refine Ops.q (q_pickF rfl rfl) ?_
                    refine Ops.to rfl ?_
                    refine Cd.cond_t rfl ?_
                    refine Cd.seq ?_
                    refine Cd.region ?_
                    refine Ops.q (q_asg rfl) ?_
                    refine Ops.to rfl ?_
                    refine Cd.rt (fn := Tryz.f52) [.int .i64 3] (by with_reducible repeat (first | exact rq_here | apply rq_then | apply rq_block)) rfl ⟨rfl, trivial⟩ ?_
                    intro w' hs
                    exact ⟨by unfold nCheck; simp only [joinV]; unfold wi at *; grind, hs.none⟩
                · refine Ops.cp en_92 rfl (fun w hs => dF (uwithin_c _ _ _ w) h21) ?_
                  refine Ops.q (q_not rfl) ?_
                  refine Ops.q (q_pickF rfl rfl) ?_
                  refine Ops.q (q_mv rfl) ?_
                  refine Ops.sk ?_
                  refine Ops.sk ?_
                  refine Ops.sk ?_
                  refine Ops.sk ?_
                  refine Ops.sk ?_
                  refine Ops.sk ?_
                  refine Ops.q (q_pickT rfl rfl) ?_
                  refine Ops.to rfl ?_
                  refine Cd.cond_t rfl ?_
                  refine Cd.seq ?_
                  refine Cd.region ?_
                  refine Ops.q (q_asg rfl) ?_
                  refine Ops.to rfl ?_
                  refine Cd.rt (fn := Tryz.f52) [.int .i64 3] (by with_reducible repeat (first | exact rq_here | apply rq_then | apply rq_block)) rfl ⟨rfl, trivial⟩ ?_
                  intro w' hs
                  exact ⟨by unfold nCheck; simp only [joinV]; unfold wi at *; grind, hs.none⟩
              · refine Ops.cp en_92 rfl (fun w hs => dF (uwithin_c _ _ _ w) h20) ?_
                refine Ops.q (q_not rfl) ?_
                refine Ops.q (q_pickF rfl rfl) ?_
                refine Ops.q (q_mv rfl) ?_
                refine Ops.sk ?_
                refine Ops.sk ?_
                refine Ops.sk ?_
                refine Ops.sk ?_
                refine Ops.q (q_pickT rfl rfl) ?_
                refine Ops.q (q_mv rfl) ?_
                refine Ops.sk ?_
                refine Ops.sk ?_
                refine Ops.sk ?_
                refine Ops.sk ?_
                refine Ops.sk ?_
                refine Ops.sk ?_
                refine Ops.q (q_pickT rfl rfl) ?_
                refine Ops.to rfl ?_
                refine Cd.cond_t rfl ?_
                refine Cd.seq ?_
                refine Cd.region ?_
                refine Ops.q (q_asg rfl) ?_
                refine Ops.to rfl ?_
                refine Cd.rt (fn := Tryz.f52) [.int .i64 3] (by with_reducible repeat (first | exact rq_here | apply rq_then | apply rq_block)) rfl ⟨rfl, trivial⟩ ?_
                intro w' hs
                exact ⟨by unfold nCheck; simp only [joinV]; unfold wi at *; grind, hs.none⟩
            · refine Ops.cp en_92 rfl (fun w hs => dF (uwithin_c _ _ _ w) h19) ?_
              refine Ops.q (q_not rfl) ?_
              refine Ops.q (q_pickF rfl rfl) ?_
              refine Ops.q (q_mv rfl) ?_
              refine Ops.sk ?_
              refine Ops.sk ?_
              refine Ops.sk ?_
              refine Ops.sk ?_
              refine Ops.q (q_pickT rfl rfl) ?_
              refine Ops.q (q_mv rfl) ?_
              refine Ops.sk ?_
              refine Ops.sk ?_
              refine Ops.sk ?_
              refine Ops.sk ?_
              refine Ops.q (q_pickT rfl rfl) ?_
              refine Ops.q (q_mv rfl) ?_
              refine Ops.sk ?_
              refine Ops.sk ?_
              refine Ops.sk ?_
              refine Ops.sk ?_
              refine Ops.sk ?_
              refine Ops.sk ?_
              refine Ops.q (q_pickT rfl rfl) ?_
              refine Ops.to rfl ?_
              refine Cd.cond_t rfl ?_
              refine Cd.seq ?_
              refine Cd.region ?_
              refine Ops.q (q_asg rfl) ?_
              refine Ops.to rfl ?_
              refine Cd.rt (fn := Tryz.f52) [.int .i64 3] (by with_reducible repeat (first | exact rq_here | apply rq_then | apply rq_block)) rfl ⟨rfl, trivial⟩ ?_
              intro w' hs
              exact ⟨by unfold nCheck; simp only [joinV]; unfold wi at *; grind, hs.none⟩
          · refine Ops.cp en_92 rfl (fun w hs => dF (uwithin_c _ _ _ w) h18) ?_
            refine Ops.q (q_not rfl) ?_
            refine Ops.q (q_pickF rfl rfl) ?_
            refine Ops.q (q_mv rfl) ?_
            refine Ops.sk ?_
            refine Ops.sk ?_
            refine Ops.sk ?_
            refine Ops.sk ?_
            refine Ops.q (q_pickT rfl rfl) ?_
            refine Ops.q (q_mv rfl) ?_
            refine Ops.sk ?_
            refine Ops.sk ?_
            refine Ops.sk ?_
            refine Ops.sk ?_
            refine Ops.q (q_pickT rfl rfl) ?_
            refine Ops.q (q_mv rfl) ?_
            refine Ops.sk ?_
            refine Ops.sk ?_
            refine Ops.sk ?_
            refine Ops.sk ?_
            refine Ops.q (q_pickT rfl rfl) ?_
            refine Ops.q (q_mv rfl) ?_
            refine Ops.sk ?_
            refine Ops.sk ?_
            refine Ops.sk ?_
            refine Ops.sk ?_
            refine Ops.sk ?_
            refine Ops.sk ?_
            refine Ops.q (q_pickT rfl rfl) ?_
            refine Ops.to rfl ?_
            refine Cd.cond_t rfl ?_
            refine Cd.seq ?_
            refine Cd.region ?_
            refine Ops.q (q_asg rfl) ?_
            refine Ops.to rfl ?_
            refine Cd.rt (fn := Tryz.f52) [.int .i64 3] (by with_reducible repeat (first | exact rq_here | apply rq_then | apply rq_block)) rfl ⟨rfl, trivial⟩ ?_
            intro w' hs
            exact ⟨by unfold nCheck; simp only [joinV]; unfold wi at *; grind, hs.none⟩
        · refine Ops.cp en_92 rfl (fun w hs => dF (uwithin_c _ _ _ w) h17) ?_
          refine Ops.q (q_not rfl) ?_
          refine Ops.q (q_mv rfl) ?_
          refine Ops.sk ?_
          refine Ops.sk ?_
          refine Ops.sk ?_
          refine Ops.sk ?_
          refine Ops.q (q_pickT rfl rfl) ?_
          refine Ops.q (q_mv rfl) ?_
          refine Ops.sk ?_
          refine Ops.sk ?_
          refine Ops.sk ?_
          refine Ops.sk ?_
          refine Ops.q (q_pickT rfl rfl) ?_
          refine Ops.q (q_mv rfl) ?_
          refine Ops.sk ?_
          refine Ops.sk ?_
          refine Ops.sk ?_
          refine Ops.sk ?_
          refine Ops.q (q_pickT rfl rfl) ?_
          refine Ops.q (q_mv rfl) ?_
          refine Ops.sk ?_
          refine Ops.sk ?_
          refine Ops.sk ?_
          refine Ops.sk ?_
          refine Ops.q (q_pickT rfl rfl) ?_
          refine Ops.q (q_mv rfl) ?_
          refine Ops.sk ?_
          refine Ops.sk ?_
          refine Ops.sk ?_
          refine Ops.sk ?_
          refine Ops.sk ?_
          refine Ops.sk ?_
          refine Ops.q (q_pickT rfl rfl) ?_
          refine Ops.to rfl ?_
          refine Cd.cond_t rfl ?_
          refine Cd.seq ?_
          refine Cd.region ?_
          refine Ops.q (q_asg rfl) ?_
          refine Ops.to rfl ?_
          refine Cd.rt (fn := Tryz.f52) [.int .i64 3] (by with_reducible repeat (first | exact rq_here | apply rq_then | apply rq_block)) rfl ⟨rfl, trivial⟩ ?_
          intro w' hs
          exact ⟨by unfold nCheck; simp only [joinV]; unfold wi at *; grind, hs.none⟩
    · refine Ops.cp en_92 rfl (fun w hs => dF (uwithin_c _ _ _ w) h4) ?_
      refine Ops.q (q_not rfl) ?_
      refine Ops.q (q_pickF rfl rfl) ?_
      refine Ops.to rfl ?_
      refine Cd.cond_t rfl ?_
      refine Cd.seq ?_
      refine Cd.region ?_
      refine Ops.q (q_asg rfl) ?_
      refine Ops.to rfl ?_
      refine Cd.rt (fn := Tryz.f52) [.int .i64 2] (by with_reducible repeat (first | exact rq_here | apply rq_then | apply rq_block)) rfl ⟨rfl, trivial⟩ ?_
      intro w' hs
      exact ⟨by unfold nCheck; simp only [joinV]; unfold wi at *; grind, hs.none⟩
  · refine Ops.cp en_91 rfl (fun w hs => leaks_f w h2) ?_
    refine Ops.q (q_mv rfl) ?_
    refine Ops.q (q_ext rfl rfl) ?_
    refine Ops.q (q_ext rfl rfl) ?_
    refine Ops.alc [.int .i64 0, .nilFunc] zc_165 ?_
    intro b23
    refine Ops.stB [.int .i64 (limP p.lk), .nilFunc] [.int .i64 (limP p.lk), .nilFunc] sz_165 rfl rfl rfl (one rfl) .here rfl rfl ?_
    refine Ops.q (q_asg rfl) ?_
    refine Ops.to rfl ?_
    refine Cd.seq ?_
    refine Cd.seq ?_
    refine Cd.region ?_
    refine Ops.q (q_mv rfl) ?_
    refine Ops.q (q_not rfl) ?_
    refine Ops.q (q_mv rfl) ?_
    refine Ops.sk ?_
    refine Ops.sk ?_
    refine Ops.sk ?_
    refine Ops.sk ?_
    refine Ops.q (q_pickT rfl rfl) ?_
    refine Ops.to rfl ?_
    refine Cd.cond_t rfl ?_
    refine Cd.seq ?_
    refine Cd.region ?_
    refine Ops.q (q_asg rfl) ?_
    refine Ops.to rfl ?_
    refine Cd.rt (fn := Tryz.f52) [.int .i64 2] (by with_reducible repeat (first | exact rq_here | apply rq_then | apply rq_block)) rfl ⟨rfl, trivial⟩ ?_
    intro w' hs
    exact ⟨by unfold nCheck; simp only [joinV]; unfold wi at *; grind, hs.none⟩
end Go.Proofs.YtilcdghliigngaaGreatDoor
namespace Go.Proofs.YtilcdghliigngaaGreatDoor
open Go.RowKit Go.Proofs.YtilcdghliigngaaGreatDoorGl Go.Proofs.YtilcdghliigngaaGreatDoorPm
set_option linter.unusedVariables false
set_option linter.unusedSimpArgs false
theorem nvalid_c (p : Prm) (s : Stt) (w : World) : Calls Tryz.prog 141 [.agg (ePrm p).toArray, .agg (eStt s).toArray].toArray w fun e w' => e = .returned (.int .i64 (nValid p s)) ∧ Sat w w' [] := by
  refine fstart Tryz.func141 rfl rfl (Sat.nil w) ?_
  refine Cd.seq ?_
  refine Cd.region ?_
  refine Ops.box [.int .i64 p.lk, .int .i64 p.leak, .int .i64 p.bias, .int .i64 p.th, .int .i64 p.rk, .int .i64 p.rs, .int .i64 p.fl, .int .i64 p.rest] rfl rfl ?_
  intro b1
  refine Ops.box [.int .i64 s.v, .int .i64 s.rest] rfl rfl ?_
  intro b2
  refine Ops.q (q_asg rfl) ?_
  refine Ops.to rfl ?_
  refine Cd.seq ?_
  refine Cd.seq ?_
  refine Cd.region ?_
  refine Ops.q (q_ldBN [.int .i64 p.lk, .int .i64 p.leak, .int .i64 p.bias, .int .i64 p.th, .int .i64 p.rk, .int .i64 p.rs, .int .i64 p.fl, .int .i64 p.rest] isA_62 sz_62 rfl (.there .here) rfl) ?_
  refine Ops.cp en_52 rfl (fun w hs => ncheck_c p w) ?_
  refine Ops.q (q_asg rfl) ?_
  refine Ops.to rfl ?_
  refine Cd.seq ?_
  refine Cd.region ?_
  refine Ops.q (q_mv rfl) ?_
  by_cases h3 : nCheck p = 0
  · refine Ops.q (q_cmp rfl rfl (c_nne h3)) ?_
    refine Ops.to rfl ?_
    refine Cd.cond_f rfl ?_
    refine Cd.skipTo rfl ?_
    refine Cd.seq ?_
    refine Cd.seq ?_
    refine Cd.region ?_
    refine Ops.q (q_fa fo_133_0 rfl) ?_
    refine Ops.q (q_ldB isA_3 rfl .here rfl) ?_
    refine Ops.q (q_fa fo_62_6 rfl) ?_
    refine Ops.q (q_ldB isA_3 rfl (.there .here) rfl) ?_
    by_cases h4 : wi s.v p.fl 1048576
    · refine Ops.cp en_92 rfl (fun w hs => dT (uwithin_c _ _ _ w) h4) ?_
      refine Ops.q (q_not rfl) ?_
      refine Ops.q (q_mv rfl) ?_
      refine Ops.q (q_fa fo_133_1 rfl) ?_
      refine Ops.q (q_ldB isA_3 rfl .here rfl) ?_
      refine Ops.q (q_fa fo_62_7 rfl) ?_
      refine Ops.q (q_ldB isA_3 rfl (.there .here) rfl) ?_
      by_cases h5 : wi s.rest 0 p.rest
      · refine Ops.cp en_92 rfl (fun w hs => dT (uwithin_c _ _ _ w) h5) ?_
        refine Ops.q (q_not rfl) ?_
        refine Ops.q (q_pickF rfl rfl) ?_
        refine Ops.to rfl ?_
        refine Cd.cond_f rfl ?_
        refine Cd.skipTo rfl ?_
        refine Cd.seq ?_
        refine Cd.region ?_
        refine Ops.q (q_asg rfl) ?_
        refine Ops.to rfl ?_
        refine Cd.rt (fn := Tryz.f141) [.int .i64 0] (by with_reducible repeat (first | exact rq_here | apply rq_then | apply rq_block)) rfl ⟨rfl, trivial⟩ ?_
        intro w' hs
        exact ⟨by unfold nValid; simp only [joinV]; grind, hs.none⟩
      · refine Ops.cp en_92 rfl (fun w hs => dF (uwithin_c _ _ _ w) h5) ?_
        refine Ops.q (q_not rfl) ?_
        refine Ops.q (q_pickF rfl rfl) ?_
        refine Ops.to rfl ?_
        refine Cd.cond_t rfl ?_
        refine Cd.seq ?_
        refine Cd.region ?_
        refine Ops.q (q_asg rfl) ?_
        refine Ops.to rfl ?_
        refine Cd.rt (fn := Tryz.f141) [.int .i64 3] (by with_reducible repeat (first | exact rq_here | apply rq_then | apply rq_block)) rfl ⟨rfl, trivial⟩ ?_
        intro w' hs
        exact ⟨by unfold nValid; simp only [joinV]; grind, hs.none⟩
    · refine Ops.cp en_92 rfl (fun w hs => dF (uwithin_c _ _ _ w) h4) ?_
      refine Ops.q (q_not rfl) ?_
      refine Ops.q (q_mv rfl) ?_
      refine Ops.sk ?_
      refine Ops.sk ?_
      refine Ops.sk ?_
      refine Ops.sk ?_
      refine Ops.sk ?_
      refine Ops.sk ?_
      refine Ops.q (q_pickT rfl rfl) ?_
      refine Ops.to rfl ?_
      refine Cd.cond_t rfl ?_
      refine Cd.seq ?_
      refine Cd.region ?_
      refine Ops.q (q_asg rfl) ?_
      refine Ops.to rfl ?_
      refine Cd.rt (fn := Tryz.f141) [.int .i64 3] (by with_reducible repeat (first | exact rq_here | apply rq_then | apply rq_block)) rfl ⟨rfl, trivial⟩ ?_
      intro w' hs
      exact ⟨by unfold nValid; simp only [joinV]; grind, hs.none⟩
  · refine Ops.q (q_cmp rfl rfl (c_ne h3)) ?_
    refine Ops.to rfl ?_
    refine Cd.cond_t rfl ?_
    refine Cd.seq ?_
    refine Cd.region ?_
    refine Ops.q (q_mv rfl) ?_
    refine Ops.q (q_asg rfl) ?_
    refine Ops.to rfl ?_
    refine Cd.rt (fn := Tryz.f141) [.int .i64 (nCheck p)] (by with_reducible repeat (first | exact rq_here | apply rq_then | apply rq_block)) rfl ⟨rfl, trivial⟩ ?_
    intro w' hs
    exact ⟨by unfold nValid; simp only [joinV]; grind, hs.none⟩
theorem newCell_ok (p : Prm) (s : Stt) (w : World) (h : nValid p s = 0) : Calls Tryz.prog 120 [.agg (ePrm p).toArray, .agg (eStt s).toArray].toArray w fun e w' => ∃ b : Nat, e = .returned (.tuple [.pointer (some ⟨b, 0, none⟩), .int .i64 0].toArray) ∧ Sat w w' [blk b 200 [.int .i64 p.lk, .int .i64 p.leak, .int .i64 p.bias, .int .i64 p.th, .int .i64 p.rk, .int .i64 p.rs, .int .i64 p.fl, .int .i64 p.rest, .int .i64 s.v, .int .i64 s.rest, .func (.func (fnK p.lk)) #[] #[]]] := by
  refine fstart Tryz.func120 rfl rfl (Sat.nil w) ?_
  refine Cd.seq ?_
  refine Cd.region ?_
  refine Ops.box [.int .i64 p.lk, .int .i64 p.leak, .int .i64 p.bias, .int .i64 p.th, .int .i64 p.rk, .int .i64 p.rs, .int .i64 p.fl, .int .i64 p.rest] rfl rfl ?_
  intro b1
  refine Ops.box [.int .i64 s.v, .int .i64 s.rest] rfl rfl ?_
  intro b2
  refine Ops.q (q_asg rfl) ?_
  refine Ops.q (q_asg rfl) ?_
  refine Ops.to rfl ?_
  refine Cd.seq ?_
  refine Cd.seq ?_
  refine Cd.region ?_
  refine Ops.q (q_ldBN [.int .i64 p.lk, .int .i64 p.leak, .int .i64 p.bias, .int .i64 p.th, .int .i64 p.rk, .int .i64 p.rs, .int .i64 p.fl, .int .i64 p.rest] isA_62 sz_62 rfl (.there .here) rfl) ?_
  refine Ops.q (q_ldBN [.int .i64 s.v, .int .i64 s.rest] isA_133 sz_133 rfl .here rfl) ?_
  refine Ops.cp en_141 rfl (fun w hs => nvalid_c p s w) ?_
  refine Ops.q (q_asg rfl) ?_
  refine Ops.to rfl ?_
  refine Cd.seq ?_
  refine Cd.region ?_
  refine Ops.q (q_mv rfl) ?_
  refine Ops.q (q_cmp rfl rfl (c_nne h)) ?_
  refine Ops.to rfl ?_
  refine Cd.cond_f rfl ?_
  refine Cd.skipTo rfl ?_
  refine Cd.seq ?_
  refine Cd.region ?_
  refine Ops.q (q_fa fo_62_0 rfl) ?_
  refine Ops.q (q_ldB isA_3 rfl (.there .here) rfl) ?_
  refine Ops.cp en_91 rfl (fun w hs => leaks_t w (nCheck_ok (nValid_ok h).1).1) ?_
  refine Ops.q (q_mv rfl) ?_
  refine Ops.q (q_ext rfl rfl) ?_
  refine Ops.q (q_ext rfl rfl) ?_
  refine Ops.alc [.int .i64 0, .nilFunc] zc_165 ?_
  intro b3
  refine Ops.stB [.int .i64 (limP p.lk), .func (.func (fnK p.lk)) #[] #[]] [.int .i64 (limP p.lk), .func (.func (fnK p.lk)) #[] #[]] sz_165 rfl rfl rfl (one rfl) .here rfl rfl ?_
  refine Ops.q (q_asg rfl) ?_
  refine Ops.to rfl ?_
  refine Cd.seq ?_
  refine Cd.region ?_
  refine Ops.q (q_ldBN [.int .i64 p.lk, .int .i64 p.leak, .int .i64 p.bias, .int .i64 p.th, .int .i64 p.rk, .int .i64 p.rs, .int .i64 p.fl, .int .i64 p.rest] isA_62 sz_62 rfl .p2 rfl) ?_
  refine Ops.q (q_ldBN [.int .i64 s.v, .int .i64 s.rest] isA_133 sz_133 rfl (.there .here) rfl) ?_
  refine Ops.q (q_fa fo_165_1 rfl) ?_
  refine Ops.q (q_ldB isA_163 rfl .here rfl) ?_
  refine Ops.q (q_bld [.int .i64 p.lk, .int .i64 p.leak, .int .i64 p.bias, .int .i64 p.th, .int .i64 p.rk, .int .i64 p.rs, .int .i64 p.fl, .int .i64 p.rest, .int .i64 s.v, .int .i64 s.rest, .func (.func (fnK p.lk)) #[] #[]] pls_200 zc_200 rfl rfl) ?_
  refine Ops.box [.int .i64 p.lk, .int .i64 p.leak, .int .i64 p.bias, .int .i64 p.th, .int .i64 p.rk, .int .i64 p.rs, .int .i64 p.fl, .int .i64 p.rest, .int .i64 s.v, .int .i64 s.rest, .func (.func (fnK p.lk)) #[] #[]] rfl rfl ?_
  intro b4
  refine Ops.q (q_asg rfl) ?_
  refine Ops.q (q_asg rfl) ?_
  refine Ops.to rfl ?_
  refine Cd.rt (fn := Tryz.f120) [.pointer (some ⟨b4, 0, none⟩), .int .i64 0] (by with_reducible repeat (first | exact rq_here | apply rq_then | apply rq_block)) rfl ⟨rfl, rfl, trivial⟩ ?_
  intro w' hs
  exact ⟨_, rfl, hs.only .here⟩
theorem newCell_err (p : Prm) (s : Stt) (w : World) (h : nValid p s ≠ 0) : Calls Tryz.prog 120 [.agg (ePrm p).toArray, .agg (eStt s).toArray].toArray w fun e w' => e = .returned (.tuple [.pointer none, .int .i64 (nValid p s)].toArray) ∧ Sat w w' [] := by
  refine fstart Tryz.func120 rfl rfl (Sat.nil w) ?_
  refine Cd.seq ?_
  refine Cd.region ?_
  refine Ops.box [.int .i64 p.lk, .int .i64 p.leak, .int .i64 p.bias, .int .i64 p.th, .int .i64 p.rk, .int .i64 p.rs, .int .i64 p.fl, .int .i64 p.rest] rfl rfl ?_
  intro b1
  refine Ops.box [.int .i64 s.v, .int .i64 s.rest] rfl rfl ?_
  intro b2
  refine Ops.q (q_asg rfl) ?_
  refine Ops.q (q_asg rfl) ?_
  refine Ops.to rfl ?_
  refine Cd.seq ?_
  refine Cd.seq ?_
  refine Cd.region ?_
  refine Ops.q (q_ldBN [.int .i64 p.lk, .int .i64 p.leak, .int .i64 p.bias, .int .i64 p.th, .int .i64 p.rk, .int .i64 p.rs, .int .i64 p.fl, .int .i64 p.rest] isA_62 sz_62 rfl (.there .here) rfl) ?_
  refine Ops.q (q_ldBN [.int .i64 s.v, .int .i64 s.rest] isA_133 sz_133 rfl .here rfl) ?_
  refine Ops.cp en_141 rfl (fun w hs => nvalid_c p s w) ?_
  refine Ops.q (q_asg rfl) ?_
  refine Ops.to rfl ?_
  refine Cd.seq ?_
  refine Cd.region ?_
  refine Ops.q (q_mv rfl) ?_
  refine Ops.q (q_cmp rfl rfl (c_ne h)) ?_
  refine Ops.to rfl ?_
  refine Cd.cond_t rfl ?_
  refine Cd.seq ?_
  refine Cd.region ?_
  refine Ops.q (q_mv rfl) ?_
  refine Ops.q (q_asg rfl) ?_
  refine Ops.q (q_asg rfl) ?_
  refine Ops.to rfl ?_
  refine Cd.rt (fn := Tryz.f120) [.pointer none, .int .i64 (nValid p s)] (by with_reducible repeat (first | exact rq_here | apply rq_then | apply rq_block)) rfl ⟨rfl, rfl, trivial⟩ ?_
  intro w' hs
  exact ⟨rfl, hs.none⟩
theorem bounded_c (v lo hi : Int) (w : World) : Calls Tryz.prog 142 [.int .i64 v, .int .i64 lo, .int .i64 hi].toArray w fun e w' => e = .returned (.int .i64 (boundP v lo hi)) ∧ Sat w w' [] := by
  refine fstart Tryz.func142 rfl rfl (Sat.nil w) ?_
  refine Cd.seq ?_
  refine Cd.region ?_
  refine Ops.q (q_asg rfl) ?_
  refine Ops.to rfl ?_
  refine Cd.seq ?_
  refine Cd.region ?_
  refine Ops.q (q_mv rfl) ?_
  refine Ops.q (q_mv rfl) ?_
  refine Ops.q (q_mv rfl) ?_
  refine Ops.q (q_min rfl rfl) ?_
  refine Ops.q (q_max rfl rfl) ?_
  refine Ops.q (q_asg rfl) ?_
  refine Ops.to rfl ?_
  refine Cd.rt (fn := Tryz.f142) [.int .i64 (max lo (min hi v))] (by with_reducible repeat (first | exact rq_here | apply rq_then | apply rq_block)) rfl ⟨rfl, trivial⟩ ?_
  intro w' hs
  exact ⟨rfl, hs.none⟩
theorem leakfn_c (p : Prm) (v : Int) (h : okP p.lk) (hl : wi p.leak (min 1 (limP p.lk)) (limP p.lk)) (hv : wi v (-1048576) 1048576) :
    ∃ k, Enters Tryz.prog k ∧ (.func (.func (fnK p.lk)) #[] #[] : Value) = .func (.func k) #[] #[] ∧ ∀ w, Calls Tryz.prog k [.agg (ePrm p).toArray, .int .i64 v].toArray w fun e w' => e = .returned (.int .i64 (leakP p v)) ∧ Sat w w' [] := by
  rcases leak_lim h hl with ⟨h1, h2⟩ | ⟨h1, h2⟩ | ⟨h1, h2⟩
  · refine ⟨115, en_115, by simp [fnK, h1], fun w => ?_⟩
    rw [show leakP p v = v by simp [leakP, h1]]
    exact leak1_c p v w
  · refine ⟨116, en_116, by simp [fnK, h1], fun w => ?_⟩
    have := leak2_c p v w hv (by unfold wi; omega)
    rwa [show (if v < 0 then min 0 (v + p.leak) else max 0 (v - p.leak)) = leakP p v by simp [leakP, h1]] at this
  · refine ⟨117, en_117, by simp [fnK, h1], fun w => ?_⟩
    have := leak3_c p v w hv (by unfold wi; omega)
    rwa [show v - (v * p.leak).tdiv 256 = leakP p v by simp [leakP, h1]] at this
theorem leakP_bd {p : Prm} {v : Int} (h : okP p.lk) (hl : wi p.leak (min 1 (limP p.lk)) (limP p.lk)) (hv : wi v (-1048576) 1048576) : -4194304 ≤ leakP p v ∧ leakP p v ≤ 4194304 := by
  unfold wi at hv
  rcases leak_lim h hl with ⟨h1, h2⟩ | ⟨h1, h2⟩ | ⟨h1, h2⟩
  · simp [leakP, h1]; omega
  · simp [leakP, h1]; split <;> omega
  · have := tdiv256 (mul_box hv (show 0 ≤ p.leak ∧ p.leak ≤ 256 by omega))
    simp [leakP, h1]; omega
theorem ctick_c (b : Nat) (p : Prm) (s : Stt) (i : Int) (w0 w : World) (F : List Atom) (hn0 : nValid p s = 0)
    (hs : Sat w0 w (blk b 200 [.int .i64 p.lk, .int .i64 p.leak, .int .i64 p.bias, .int .i64 p.th, .int .i64 p.rk, .int .i64 p.rs, .int .i64 p.fl, .int .i64 p.rest, .int .i64 s.v, .int .i64 s.rest, .func (.func (fnK p.lk)) #[] #[]] :: F)) :
    Calls Tryz.prog 121 [.pointer (some ⟨b, 0, none⟩), .int .i64 i].toArray w fun e w' => e = .returned (.bool (tickP p s i).2) ∧ Sat w0 w' (blk b 200 [.int .i64 p.lk, .int .i64 p.leak, .int .i64 p.bias, .int .i64 p.th, .int .i64 p.rk, .int .i64 p.rs, .int .i64 p.fl, .int .i64 p.rest, .int .i64 (tickP p s i).1.v, .int .i64 (tickP p s i).1.rest, .func (.func (fnK p.lk)) #[] #[]] :: F) := by
  obtain ⟨hnc, hsv, hsr⟩ := nValid_ok hn0
  have hq := nCheck_ok hnc
  have hvb : wi s.v (-1048576) 1048576 := by obtain ⟨_, _, _, _, h, _⟩ := hq; unfold wi at *; omega
  have hlb := leakP_bd hq.1 hq.2.2.1 hvb
  obtain ⟨hq1, hq2, hq3, hq4, hq5, hq6, hq7, hq8⟩ := id hq
  have hbi := boundP_bd i (lo := -4194304) (hi := 4194304) (by omega)
  unfold wi at hsv hsr hq2 hq4 hq5 hq6 hq7
  refine fstart Tryz.func121 rfl rfl hs ?_
  refine Cd.seq ?_
  refine Cd.region ?_
  refine Ops.q (q_asg rfl) ?_
  refine Ops.to rfl ?_
  refine Cd.seq ?_
  refine Cd.seq ?_
  refine Cd.region ?_
  refine Ops.q (q_mv rfl) ?_
  refine Ops.q (q_nck rfl) ?_
  refine Ops.q (q_fa fo_200_1 rfl) ?_
  refine Ops.q (q_fa fo_133_1 rfl) ?_
  refine Ops.q (q_ldB isA_3 rfl .here rfl) ?_
  by_cases h1 : 0 < s.rest
  · refine Ops.q (q_cmp rfl rfl (c_gt h1)) ?_
    refine Ops.to rfl ?_
    refine Cd.cond_t rfl ?_
    refine Cd.seq ?_
    refine Cd.region ?_
    refine Ops.q (q_mv rfl) ?_
    refine Ops.q (q_nck rfl) ?_
    refine Ops.q (q_fa fo_200_1 rfl) ?_
    refine Ops.q (q_fa fo_133_1 rfl) ?_
    refine Ops.q (q_ldB isA_3 rfl .here rfl) ?_
    refine Ops.q (q_ar rfl rfl (a_sub (by omega))) ?_
    refine Ops.q (q_nck rfl) ?_
    refine Ops.q (q_fa fo_200_1 rfl) ?_
    refine Ops.q (q_fa fo_133_1 rfl) ?_
    refine Ops.stB [.int .i64 (s.rest - 1)] [.int .i64 p.lk, .int .i64 p.leak, .int .i64 p.bias, .int .i64 p.th, .int .i64 p.rk, .int .i64 p.rs, .int .i64 p.fl, .int .i64 p.rest, .int .i64 s.v, .int .i64 (s.rest - 1), .func (.func (fnK p.lk)) #[] #[]] sz_3 rfl rfl rfl (one rfl) .here rfl rfl ?_
    refine Ops.to rfl ?_
    refine Cd.seq ?_
    refine Cd.region ?_
    refine Ops.q (q_asg rfl) ?_
    refine Ops.to rfl ?_
    refine Cd.rt (fn := Tryz.f121) [.bool false] (by with_reducible repeat (first | exact rq_here | apply rq_then | apply rq_block)) rfl ⟨rfl, trivial⟩ ?_
    intro w' hs'
    have ht : tickP p s i = (⟨s.v, s.rest - 1⟩, false) := by unfold tickP; rw [if_neg (by simp [hn0])]; simp only [tickV]; grind
    exact ⟨by rw [ht]; rfl, by rw [ht]; exact hs'⟩
  · refine Ops.q (q_cmp rfl rfl (c_ngt (by omega))) ?_
    refine Ops.to rfl ?_
    refine Cd.cond_f rfl ?_
    refine Cd.skipTo rfl ?_
    refine Cd.seq ?_
    refine Cd.draw rfl (by kernel_rfl) (.cons .here .nil) ?_
    intro F2 St3 hP4 hF5 hR6
    refine Dr.q (i := 0) hP4 rfl (by kernel_rfl) (q_mv rfl) ?_
    refine Dr.q (i := 1) hP4 rfl (by kernel_rfl) (q_nck rfl) ?_
    refine Dr.q (i := 2) hP4 rfl (by kernel_rfl) (q_fa fo_200_2 rfl) ?_
    refine Dr.q (i := 3) hP4 rfl (by kernel_rfl) (q_ldB isA_163 rfl .here rfl) ?_
    refine Dr.q (i := 4) hP4 rfl (by kernel_rfl) (q_mv rfl) ?_
    refine Dr.q (i := 5) hP4 rfl (by kernel_rfl) (q_nck rfl) ?_
    refine Dr.q (i := 6) hP4 rfl (by kernel_rfl) (q_fa fo_200_0 rfl) ?_
    refine Dr.q (i := 7) hP4 rfl (by kernel_rfl) (q_ldBN [.int .i64 p.lk, .int .i64 p.leak, .int .i64 p.bias, .int .i64 p.th, .int .i64 p.rk, .int .i64 p.rs, .int .i64 p.fl, .int .i64 p.rest] isA_62 sz_62 rfl .here rfl) ?_
    refine Dr.q (i := 8) hP4 rfl (by kernel_rfl) (q_mv rfl) ?_
    refine Dr.q (i := 9) hP4 rfl (by kernel_rfl) (q_nck rfl) ?_
    refine Dr.q (i := 10) hP4 rfl (by kernel_rfl) (q_fa fo_200_1 rfl) ?_
    refine Dr.q (i := 11) hP4 rfl (by kernel_rfl) (q_fa fo_133_0 rfl) ?_
    refine Dr.q (i := 12) hP4 rfl (by kernel_rfl) (q_ldB isA_3 rfl .here rfl) ?_
    refine Dr.q (i := 14) hP4 rfl (by kernel_rfl) (q_mv rfl) ?_
    refine Dr.q (i := 15) hP4 rfl (by kernel_rfl) (q_nck rfl) ?_
    refine Dr.q (i := 16) hP4 rfl (by kernel_rfl) (q_fa fo_200_0 rfl) ?_
    refine Dr.q (i := 17) hP4 rfl (by kernel_rfl) (q_fa fo_62_2 rfl) ?_
    refine Dr.q (i := 18) hP4 rfl (by kernel_rfl) (q_ldB isA_3 rfl .here rfl) ?_
    refine Dr.q (i := 20) hP4 rfl (by kernel_rfl) (q_mv rfl) ?_
    refine Dr.q (i := 23) hP4 rfl (by kernel_rfl) (q_mv rfl) ?_
    refine Dr.q (i := 24) hP4 rfl (by kernel_rfl) (q_nck rfl) ?_
    refine Dr.q (i := 25) hP4 rfl (by kernel_rfl) (q_fa fo_200_0 rfl) ?_
    refine Dr.q (i := 26) hP4 rfl (by kernel_rfl) (q_fa fo_62_6 rfl) ?_
    refine Dr.q (i := 27) hP4 rfl (by kernel_rfl) (q_ldB isA_3 rfl .here rfl) ?_
    refine Dr.e (i := 13) rfl (by kernel_rfl) ?_
    refine Ops.cvE rfl rfl ((leakfn_c p s.v hq.1 hq.2.2.1 hvb).imp fun k h => ⟨h.1, h.2.1, fun w _ => h.2.2 w⟩) ?_
    refine Dr.back (fun _ hs => hF5 .here hs) ?_
    refine Dr.q (i := 19) hP4 rfl (by kernel_rfl) (q_ar rfl rfl (a_add (by omega))) ?_
    refine Dr.e (i := 21) rfl (by kernel_rfl) ?_
    refine Ops.cp en_142 rfl (fun w hs => bounded_c i (-4194304) 4194304 w) ?_
    have hb42 := boundP_bd i (lo := (-4194304)) (hi := 4194304) (by omega)
    refine Dr.back (fun _ hs => hF5 .here hs) ?_
    refine Dr.q (i := 22) hP4 rfl (by kernel_rfl) (q_ar rfl rfl (a_add (by omega))) ?_
    refine Dr.e (i := 28) rfl (by kernel_rfl) ?_
    refine Ops.cp en_142 rfl (fun w hs => bounded_c (((leakP p s.v) + p.bias) + (boundP i (-4194304) 4194304)) p.fl 1048576 w) ?_
    have hb49 := boundP_bd (((leakP p s.v) + p.bias) + (boundP i (-4194304) 4194304)) (lo := p.fl) (hi := 1048576) (by omega)
    refine Dr.back (fun _ hs => hF5 .here hs) ?_
    refine Dr.tail 29 (by kernel_rfl) ?_
    refine Ops.sat ?_ (fun _ hs => hR6 .here hs)
    refine Ops.q (q_asg rfl) ?_
    refine Ops.to rfl ?_
    refine Cd.seq ?_
    refine Cd.region ?_
    refine Ops.q (q_mv rfl) ?_
    refine Ops.q (q_mv rfl) ?_
    refine Ops.q (q_nck rfl) ?_
    refine Ops.q (q_fa fo_200_1 rfl) ?_
    refine Ops.q (q_fa fo_133_0 rfl) ?_
    refine Ops.stB [.int .i64 (boundP (((leakP p s.v) + p.bias) + (boundP i (-4194304) 4194304)) p.fl 1048576)] [.int .i64 p.lk, .int .i64 p.leak, .int .i64 p.bias, .int .i64 p.th, .int .i64 p.rk, .int .i64 p.rs, .int .i64 p.fl, .int .i64 p.rest, .int .i64 (boundP (((leakP p s.v) + p.bias) + (boundP i (-4194304) 4194304)) p.fl 1048576), .int .i64 s.rest, .func (.func (fnK p.lk)) #[] #[]] sz_3 rfl rfl rfl (one rfl) .here rfl rfl ?_
    refine Ops.to rfl ?_
    refine Cd.seq ?_
    refine Cd.seq ?_
    refine Cd.region ?_
    refine Ops.q (q_mv rfl) ?_
    refine Ops.q (q_mv rfl) ?_
    refine Ops.q (q_nck rfl) ?_
    refine Ops.q (q_fa fo_200_0 rfl) ?_
    refine Ops.q (q_fa fo_62_3 rfl) ?_
    refine Ops.q (q_ldB isA_3 rfl .here rfl) ?_
    by_cases h7 : boundP (((leakP p s.v) + p.bias) + (boundP i (-4194304) 4194304)) p.fl 1048576 < p.th
    · refine Ops.q (q_cmp rfl rfl (c_lt h7)) ?_
      refine Ops.to rfl ?_
      refine Cd.cond_t rfl ?_
      refine Cd.seq ?_
      refine Cd.region ?_
      refine Ops.q (q_asg rfl) ?_
      refine Ops.to rfl ?_
      refine Cd.rt (fn := Tryz.f121) [.bool false] (by with_reducible repeat (first | exact rq_here | apply rq_then | apply rq_block)) rfl ⟨rfl, trivial⟩ ?_
      intro w' hs'
      have ht : tickP p s i = (⟨boundP (((leakP p s.v) + p.bias) + (boundP i (-4194304) 4194304)) p.fl 1048576, s.rest⟩, false) := by unfold tickP; rw [if_neg (by simp [hn0])]; simp only [tickV]; grind
      exact ⟨by rw [ht]; rfl, by rw [ht]; exact hs'⟩
    · refine Ops.q (q_cmp rfl rfl (c_nlt (by omega))) ?_
      refine Ops.to rfl ?_
      refine Cd.cond_f rfl ?_
      refine Cd.skipTo rfl ?_
      refine Cd.seq ?_
      refine Cd.draw rfl (by kernel_rfl) (.cons .here .nil) ?_
      intro F8 St9 hP10 hF11 hR12
      refine Dr.q (i := 0) hP10 rfl (by kernel_rfl) (q_mv rfl) ?_
      refine Dr.q (i := 1) hP10 rfl (by kernel_rfl) (q_mv rfl) ?_
      refine Dr.q (i := 2) hP10 rfl (by kernel_rfl) (q_nck rfl) ?_
      refine Dr.q (i := 3) hP10 rfl (by kernel_rfl) (q_fa fo_200_0 rfl) ?_
      refine Dr.q (i := 4) hP10 rfl (by kernel_rfl) (q_fa fo_62_5 rfl) ?_
      refine Dr.q (i := 5) hP10 rfl (by kernel_rfl) (q_ldB isA_3 rfl .here rfl) ?_
      refine Dr.q (i := 6) hP10 rfl (by kernel_rfl) (q_mv rfl) ?_
      refine Dr.q (i := 7) hP10 rfl (by kernel_rfl) (q_nck rfl) ?_
      refine Dr.q (i := 8) hP10 rfl (by kernel_rfl) (q_fa fo_200_0 rfl) ?_
      refine Dr.q (i := 9) hP10 rfl (by kernel_rfl) (q_fa fo_62_7 rfl) ?_
      refine Dr.q (i := 10) hP10 rfl (by kernel_rfl) (q_ldB isA_3 rfl .here rfl) ?_
      refine Dr.q (i := 11) hP10 rfl (by kernel_rfl) (q_bld [.int .i64 p.rs, .int .i64 p.rest] pls_133 zc_133 rfl rfl) ?_
      refine Dr.tail 12 (by kernel_rfl) ?_
      refine Ops.sat ?_ (fun _ hs => hR12 .here hs)
      refine Ops.q (q_nck rfl) ?_
      refine Ops.q (q_fa fo_200_1 rfl) ?_
      refine Ops.stB [.int .i64 p.rs, .int .i64 p.rest] [.int .i64 p.lk, .int .i64 p.leak, .int .i64 p.bias, .int .i64 p.th, .int .i64 p.rk, .int .i64 p.rs, .int .i64 p.fl, .int .i64 p.rest, .int .i64 p.rs, .int .i64 p.rest, .func (.func (fnK p.lk)) #[] #[]] sz_133 rfl rfl rfl (one rfl) .here rfl rfl ?_
      refine Ops.to rfl ?_
      refine Cd.seq ?_
      refine Cd.seq ?_
      refine Cd.region ?_
      refine Ops.q (q_mv rfl) ?_
      refine Ops.q (q_nck rfl) ?_
      refine Ops.q (q_fa fo_200_0 rfl) ?_
      refine Ops.q (q_fa fo_62_4 rfl) ?_
      refine Ops.q (q_ldB isA_3 rfl .here rfl) ?_
      by_cases h13 : p.rk = 1
      · refine Ops.q (q_cmp rfl rfl (c_eq h13)) ?_
        refine Ops.to rfl ?_
        refine Cd.cond_t rfl ?_
        refine Cd.region ?_
        refine Ops.q (q_mv rfl) ?_
        refine Ops.q (q_mv rfl) ?_
        refine Ops.q (q_mv rfl) ?_
        refine Ops.q (q_nck rfl) ?_
        refine Ops.q (q_fa fo_200_0 rfl) ?_
        refine Ops.q (q_fa fo_62_3 rfl) ?_
        refine Ops.q (q_ldB isA_3 rfl .here rfl) ?_
        refine Ops.q (q_ar rfl rfl (a_sub (by omega))) ?_
        refine Ops.q (q_nck rfl) ?_
        refine Ops.q (q_fa fo_200_1 rfl) ?_
        refine Ops.q (q_fa fo_133_0 rfl) ?_
        refine Ops.stB [.int .i64 ((boundP (((leakP p s.v) + p.bias) + (boundP i (-4194304) 4194304)) p.fl 1048576) - p.th)] [.int .i64 p.lk, .int .i64 p.leak, .int .i64 p.bias, .int .i64 p.th, .int .i64 p.rk, .int .i64 p.rs, .int .i64 p.fl, .int .i64 p.rest, .int .i64 ((boundP (((leakP p s.v) + p.bias) + (boundP i (-4194304) 4194304)) p.fl 1048576) - p.th), .int .i64 p.rest, .func (.func (fnK p.lk)) #[] #[]] sz_3 rfl rfl rfl (one rfl) .here rfl rfl ?_
        refine Ops.to rfl ?_
        refine Cd.seq ?_
        refine Cd.region ?_
        refine Ops.q (q_asg rfl) ?_
        refine Ops.to rfl ?_
        refine Cd.rt (fn := Tryz.f121) [.bool true] (by with_reducible repeat (first | exact rq_here | apply rq_then | apply rq_block)) rfl ⟨rfl, trivial⟩ ?_
        intro w' hs'
        have ht : tickP p s i = (⟨(boundP (((leakP p s.v) + p.bias) + (boundP i (-4194304) 4194304)) p.fl 1048576) - p.th, p.rest⟩, true) := by unfold tickP; rw [if_neg (by simp [hn0])]; simp only [tickV]; grind
        exact ⟨by rw [ht]; rfl, by rw [ht]; exact hs'⟩
      · refine Ops.q (q_cmp rfl rfl (c_neq h13)) ?_
        refine Ops.to rfl ?_
        refine Cd.cond_f rfl ?_
        refine Cd.skipTo rfl ?_
        refine Cd.seq ?_
        refine Cd.region ?_
        refine Ops.q (q_asg rfl) ?_
        refine Ops.to rfl ?_
        refine Cd.rt (fn := Tryz.f121) [.bool true] (by with_reducible repeat (first | exact rq_here | apply rq_then | apply rq_block)) rfl ⟨rfl, trivial⟩ ?_
        intro w' hs'
        have ht : tickP p s i = (⟨p.rs, p.rest⟩, true) := by unfold tickP; rw [if_neg (by simp [hn0])]; simp only [tickV]; grind
        exact ⟨by rw [ht]; rfl, by rw [ht]; exact hs'⟩
theorem tick_ok (p : Prm) (s : Stt) (i : Int) (w : World) (h : nValid p s = 0) : Calls Tryz.prog 100 [.agg (ePrm p).toArray, .agg (eStt s).toArray, .int .i64 i].toArray w fun e w' => e = .returned (.tuple [.agg (eStt (tickP p s i).1).toArray, .bool (tickP p s i).2, .int .i64 (nValid p s)].toArray) ∧ Sat w w' [] := by
  refine fstart Tryz.func100 rfl rfl (Sat.nil w) ?_
  refine Cd.seq ?_
  refine Cd.region ?_
  refine Ops.box [.int .i64 p.lk, .int .i64 p.leak, .int .i64 p.bias, .int .i64 p.th, .int .i64 p.rk, .int .i64 p.rs, .int .i64 p.fl, .int .i64 p.rest] rfl rfl ?_
  intro b1
  refine Ops.box [.int .i64 s.v, .int .i64 s.rest] rfl rfl ?_
  intro b2
  refine Ops.alc [.int .i64 0, .int .i64 0] zc_133 ?_
  intro b3
  refine Ops.q (q_asg rfl) ?_
  refine Ops.q (q_asg rfl) ?_
  refine Ops.to rfl ?_
  refine Cd.seq ?_
  refine Cd.region ?_
  refine Ops.q (q_ldBN [.int .i64 p.lk, .int .i64 p.leak, .int .i64 p.bias, .int .i64 p.th, .int .i64 p.rk, .int .i64 p.rs, .int .i64 p.fl, .int .i64 p.rest] isA_62 sz_62 rfl .p2 rfl) ?_
  refine Ops.q (q_ldBN [.int .i64 s.v, .int .i64 s.rest] isA_133 sz_133 rfl (.there .here) rfl) ?_
  refine Ops.cl en_120 rfl (fun w hs => newCell_ok p s w h) ?_
  intro b4
  refine Ops.q (q_mv rfl) ?_
  refine Ops.q (q_ext rfl rfl) ?_
  refine Ops.q (q_ext rfl rfl) ?_
  refine Ops.q (q_asg rfl) ?_
  refine Ops.q (q_asg rfl) ?_
  refine Ops.to rfl ?_
  refine Cd.seq ?_
  refine Cd.seq ?_
  refine Cd.region ?_
  refine Ops.q (q_mv rfl) ?_
  refine Ops.q (q_cmp rfl rfl (c_nne (by decide))) ?_
  refine Ops.to rfl ?_
  refine Cd.cond_f rfl ?_
  refine Cd.skipTo rfl ?_
  refine Cd.seq ?_
  refine Cd.region ?_
  refine Ops.q (q_mv rfl) ?_
  refine Ops.q (q_mv rfl) ?_
  refine Ops.cm (α := Unit) (v := fun _ => .bool (tickP p s i).2) (A' := fun _ => [blk b4 200 [.int .i64 p.lk, .int .i64 p.leak, .int .i64 p.bias, .int .i64 p.th, .int .i64 p.rk, .int .i64 p.rs, .int .i64 p.fl, .int .i64 p.rest, .int .i64 ((tickP p s i).1.v), .int .i64 ((tickP p s i).1.rest), .func (.func (fnK p.lk)) #[] #[]], blk b3 133 [.int .i64 0, .int .i64 0], blk b2 133 [.int .i64 s.v, .int .i64 s.rest], blk b1 62 [.int .i64 p.lk, .int .i64 p.leak, .int .i64 p.bias, .int .i64 p.th, .int .i64 p.rk, .int .i64 p.rs, .int .i64 p.fl, .int .i64 p.rest]]) en_121 rfl (fun w hs => (ctick_c _ p s i _ w _ h hs).mono fun e w' he => ⟨(), he⟩) ?_
  intro _
  refine Ops.q (q_asg rfl) ?_
  refine Ops.to rfl ?_
  refine Cd.seq ?_
  refine Cd.region ?_
  refine Ops.q (q_mv rfl) ?_
  refine Ops.q (q_nck rfl) ?_
  refine Ops.q (q_fa fo_200_1 rfl) ?_
  refine Ops.q (q_ldBN [.int .i64 ((tickP p s i).1.v), .int .i64 ((tickP p s i).1.rest)] isA_133 sz_133 rfl .here rfl) ?_
  refine Ops.q (q_mv rfl) ?_
  refine Ops.stB [.int .i64 ((tickP p s i).1.v), .int .i64 ((tickP p s i).1.rest)] [.int .i64 ((tickP p s i).1.v), .int .i64 ((tickP p s i).1.rest)] sz_133 rfl rfl rfl (one rfl) (.there .here) rfl rfl ?_
  refine Ops.q (q_asg rfl) ?_
  refine Ops.q (q_asg rfl) ?_
  refine Ops.to rfl ?_
  refine Cd.rt (fn := Tryz.f100) [.agg [.int .i64 ((tickP p s i).1.v), .int .i64 ((tickP p s i).1.rest)].toArray, .bool ((tickP p s i).2), .int .i64 0] (by with_reducible repeat (first | exact rq_here | apply rq_then | apply rq_block)) rfl ⟨⟨_, _, rfl, fun _ hs => run_loadN isA_133 sz_133 (fun o u hu => Sat.atB (.there .here) (by rw [Nat.zero_add]; exact hu) hs)⟩, rfl, rfl, trivial⟩ ?_
  intro w' hs
  exact ⟨by rw [h]; rfl, hs.none⟩
theorem tick_err (p : Prm) (s : Stt) (i : Int) (w : World) (h : nValid p s ≠ 0) : Calls Tryz.prog 100 [.agg (ePrm p).toArray, .agg (eStt s).toArray, .int .i64 i].toArray w fun e w' => e = .returned (.tuple [.agg (eStt (tickP p s i).1).toArray, .bool (tickP p s i).2, .int .i64 (nValid p s)].toArray) ∧ Sat w w' [] := by
  refine fstart Tryz.func100 rfl rfl (Sat.nil w) ?_
  refine Cd.seq ?_
  refine Cd.region ?_
  refine Ops.box [.int .i64 p.lk, .int .i64 p.leak, .int .i64 p.bias, .int .i64 p.th, .int .i64 p.rk, .int .i64 p.rs, .int .i64 p.fl, .int .i64 p.rest] rfl rfl ?_
  intro b1
  refine Ops.box [.int .i64 s.v, .int .i64 s.rest] rfl rfl ?_
  intro b2
  refine Ops.alc [.int .i64 0, .int .i64 0] zc_133 ?_
  intro b3
  refine Ops.q (q_asg rfl) ?_
  refine Ops.q (q_asg rfl) ?_
  refine Ops.to rfl ?_
  refine Cd.seq ?_
  refine Cd.region ?_
  refine Ops.q (q_ldBN [.int .i64 p.lk, .int .i64 p.leak, .int .i64 p.bias, .int .i64 p.th, .int .i64 p.rk, .int .i64 p.rs, .int .i64 p.fl, .int .i64 p.rest] isA_62 sz_62 rfl .p2 rfl) ?_
  refine Ops.q (q_ldBN [.int .i64 s.v, .int .i64 s.rest] isA_133 sz_133 rfl (.there .here) rfl) ?_
  refine Ops.cp en_120 rfl (fun w hs => newCell_err p s w h) ?_
  refine Ops.q (q_mv rfl) ?_
  refine Ops.q (q_ext rfl rfl) ?_
  refine Ops.q (q_ext rfl rfl) ?_
  refine Ops.q (q_asg rfl) ?_
  refine Ops.q (q_asg rfl) ?_
  refine Ops.to rfl ?_
  refine Cd.seq ?_
  refine Cd.seq ?_
  refine Cd.region ?_
  refine Ops.q (q_mv rfl) ?_
  refine Ops.q (q_cmp rfl rfl (c_ne h)) ?_
  refine Ops.to rfl ?_
  refine Cd.cond_t rfl ?_
  refine Cd.seq ?_
  refine Cd.region ?_
  refine Ops.q (q_bld [.int .i64 0, .int .i64 0] pls_133 zc_133 rfl rfl) ?_
  refine Ops.q (q_mv rfl) ?_
  refine Ops.stB [.int .i64 0, .int .i64 0] [.int .i64 0, .int .i64 0] sz_133 rfl rfl rfl (one rfl) .here rfl rfl ?_
  refine Ops.q (q_asg rfl) ?_
  refine Ops.q (q_asg rfl) ?_
  refine Ops.to rfl ?_
  refine Cd.rt (fn := Tryz.f100) [.agg [.int .i64 0, .int .i64 0].toArray, .bool false, .int .i64 (nValid p s)] (by with_reducible repeat (first | exact rq_here | apply rq_then | apply rq_block)) rfl ⟨⟨_, _, rfl, fun _ hs => run_loadN isA_133 sz_133 (fun o u hu => Sat.atB .here (by rw [Nat.zero_add]; exact hu) hs)⟩, rfl, rfl, trivial⟩ ?_
  intro w' hs
  exact ⟨by simp [joinV, tickP, h, eStt], hs.none⟩
theorem tick_c (p : Prm) (s : Stt) (i : Int) (w : World) : Calls Tryz.prog 100 [.agg (ePrm p).toArray, .agg (eStt s).toArray, .int .i64 i].toArray w fun e w' => e = .returned (.tuple [.agg (eStt (tickP p s i).1).toArray, .bool (tickP p s i).2, .int .i64 (nValid p s)].toArray) ∧ Sat w w' [] :=
  if h : nValid p s = 0 then tick_ok p s i w h else tick_err p s i w h
end Go.Proofs.YtilcdghliigngaaGreatDoor
namespace Go.Proofs.YtilcdghliigngaaGreatDoor
open Go.RowKit Go.Proofs.YtilcdghliigngaaGreatDoorGl Go.Proofs.YtilcdghliigngaaGreatDoorPm
set_option linter.unusedVariables false
set_option linter.unusedSimpArgs false
theorem source_c (na : Option Addr) (nc : Nat) (sa : Option Addr) (sc : Nat) (ns : List Prm) (ip : Int) (ss : List Syn) (id : Int) (w : World) (hip : -1000 ≤ ip ∧ ip ≤ 1000) (hn : ns.length < 100000) : Calls Tryz.prog 53 [.agg [.slice na ns.length nc, .int .i64 ip, .slice sa ss.length sc].toArray, .int .i64 id].toArray w fun e w' => e = .returned (.bool (decide (wi id (-ip) ((ns.length : Int) - 1)))) ∧ Sat w w' [] := by
  refine fstart Tryz.func53 rfl rfl (Sat.nil w) ?_
  refine Cd.seq ?_
  refine Cd.region ?_
  refine Ops.box [.slice na ns.length nc, .int .i64 ip, .slice sa ss.length sc] rfl rfl ?_
  intro b1
  refine Ops.q (q_asg rfl) ?_
  refine Ops.to rfl ?_
  refine Cd.seq ?_
  refine Cd.region ?_
  refine Ops.q (q_mv rfl) ?_
  refine Ops.q (q_fa fo_40_1 rfl) ?_
  refine Ops.q (q_ldB isA_3 rfl .here rfl) ?_
  refine Ops.q (q_neg rfl (a_sub (by omega))) ?_
  refine Ops.q (q_fa fo_40_0 rfl) ?_
  refine Ops.q (q_ldB isA_37 rfl .here rfl) ?_
  refine Ops.q (q_len esz_37 rfl) ?_
  refine Ops.q (q_ar rfl rfl (a_sub (by omega))) ?_
  refine Ops.cp en_54 rfl (fun w hs => nwithin_c _ _ _ w) ?_
  refine Ops.q (q_asg rfl) ?_
  refine Ops.to rfl ?_
  refine Cd.rt (fn := Tryz.f53) [.bool (decide (wi id (0 - ip) ((ns.length : Int) - 1)))] (by with_reducible repeat (first | exact rq_here | apply rq_then | apply rq_block)) rfl ⟨rfl, trivial⟩ ?_
  intro w' hs
  exact ⟨by simp only [joinV, Int.zero_sub], hs.none⟩
theorem check_c (na : Option Addr) (nc : Nat) (sa : Option Addr) (sc : Nat) (ns : List Prm) (ip : Int) (ss : List Syn) (w : World) (hN : RoL w na ePrm ns) (hS : RoL w sa eSyn ss) : Calls Tryz.prog 23 [.agg [.slice na ns.length nc, .int .i64 ip, .slice sa ss.length sc].toArray].toArray w fun e w' => e = .returned (.int .i64 (netCheck ⟨ns, ip, ss⟩)) ∧ Sat w w' [] := by
  refine fstart Tryz.func23 rfl rfl (Sat.nil w) ?_
  refine Cd.seq ?_
  refine Cd.region ?_
  refine Ops.box [.slice na ns.length nc, .int .i64 ip, .slice sa ss.length sc] rfl rfl ?_
  intro b1
  refine Ops.q (q_asg rfl) ?_
  refine Ops.to rfl ?_
  refine Cd.seq ?_
  refine Cd.block ?_
  refine Cd.seq ?_
  refine Cd.region ?_
  refine Ops.q (q_fa fo_40_0 rfl) ?_
  refine Ops.q (q_ldB isA_37 rfl .here rfl) ?_
  refine Ops.q (q_len esz_37 rfl) ?_
  by_cases h2 : (ns.length : Int) = 0
  · refine Ops.q (q_cmp rfl rfl (c_eq h2)) ?_
    refine Ops.q (q_asg rfl) ?_
    refine Ops.to rfl ?_
    refine Cd.cond_t rfl ?_
    refine Cd.seq ?_
    refine Cd.region ?_
    refine Ops.q (q_asg rfl) ?_
    refine Ops.to rfl ?_
    refine Cd.rt (fn := Tryz.f23) [.int .i64 2] (by with_reducible repeat (first | exact rq_here | apply rq_then | apply rq_block)) rfl ⟨rfl, trivial⟩ ?_
    intro w' hs'
    exact ⟨by simp only [joinV]; unfold netCheck; grind, hs'.none⟩
  · refine Ops.q (q_cmp rfl rfl (c_neq h2)) ?_
    refine Ops.q (q_asg rfl) ?_
    refine Ops.to rfl ?_
    refine Cd.cond_f rfl ?_
    refine Cd.seq ?_
    refine Cd.region ?_
    refine Ops.q (q_fa fo_40_0 rfl) ?_
    refine Ops.q (q_ldB isA_37 rfl .here rfl) ?_
    refine Ops.q (q_len esz_37 rfl) ?_
    by_cases h3 : 1024 < (ns.length : Int)
    · refine Ops.q (q_cmp rfl rfl (c_gt h3)) ?_
      refine Ops.q (q_mv rfl) ?_
      refine Ops.sk ?_
      refine Ops.sk ?_
      refine Ops.sk ?_
      refine Ops.q (q_pickT rfl rfl) ?_
      refine Ops.q (q_mv rfl) ?_
      refine Ops.sk ?_
      refine Ops.sk ?_
      refine Ops.sk ?_
      refine Ops.sk ?_
      refine Ops.q (q_pickT rfl rfl) ?_
      refine Ops.q (q_asg rfl) ?_
      refine Ops.to rfl ?_
      refine Cd.cond_t rfl ?_
      refine Cd.seq ?_
      refine Cd.region ?_
      refine Ops.q (q_asg rfl) ?_
      refine Ops.to rfl ?_
      refine Cd.rt (fn := Tryz.f23) [.int .i64 9] (by with_reducible repeat (first | exact rq_here | apply rq_then | apply rq_block)) rfl ⟨rfl, trivial⟩ ?_
      intro w' hs'
      exact ⟨by simp only [joinV]; unfold netCheck; grind, hs'.none⟩
    · refine Ops.q (q_cmp rfl rfl (c_ngt (by omega))) ?_
      refine Ops.q (q_mv rfl) ?_
      refine Ops.q (q_fa fo_40_1 rfl) ?_
      refine Ops.q (q_ldB isA_3 rfl .here rfl) ?_
      by_cases h4 : 256 < ip
      · refine Ops.q (q_cmp rfl rfl (c_gt h4)) ?_
        refine Ops.q (q_pickF rfl rfl) ?_
        refine Ops.q (q_mv rfl) ?_
        refine Ops.sk ?_
        refine Ops.sk ?_
        refine Ops.sk ?_
        refine Ops.sk ?_
        refine Ops.q (q_pickT rfl rfl) ?_
        refine Ops.q (q_asg rfl) ?_
        refine Ops.to rfl ?_
        refine Cd.cond_t rfl ?_
        refine Cd.seq ?_
        refine Cd.region ?_
        refine Ops.q (q_asg rfl) ?_
        refine Ops.to rfl ?_
        refine Cd.rt (fn := Tryz.f23) [.int .i64 9] (by with_reducible repeat (first | exact rq_here | apply rq_then | apply rq_block)) rfl ⟨rfl, trivial⟩ ?_
        intro w' hs'
        exact ⟨by simp only [joinV]; unfold netCheck; grind, hs'.none⟩
      · refine Ops.q (q_cmp rfl rfl (c_ngt (by omega))) ?_
        refine Ops.q (q_pickF rfl rfl) ?_
        refine Ops.q (q_mv rfl) ?_
        refine Ops.q (q_fa fo_40_2 rfl) ?_
        refine Ops.q (q_ldB isA_38 rfl .here rfl) ?_
        refine Ops.q (q_len esz_38 rfl) ?_
        by_cases h5 : 8192 < (ss.length : Int)
        · refine Ops.q (q_cmp rfl rfl (c_gt h5)) ?_
          refine Ops.q (q_pickF rfl rfl) ?_
          refine Ops.q (q_asg rfl) ?_
          refine Ops.to rfl ?_
          refine Cd.cond_t rfl ?_
          refine Cd.seq ?_
          refine Cd.region ?_
          refine Ops.q (q_asg rfl) ?_
          refine Ops.to rfl ?_
          refine Cd.rt (fn := Tryz.f23) [.int .i64 9] (by with_reducible repeat (first | exact rq_here | apply rq_then | apply rq_block)) rfl ⟨rfl, trivial⟩ ?_
          intro w' hs'
          exact ⟨by simp only [joinV]; unfold netCheck; grind, hs'.none⟩
        · refine Ops.q (q_cmp rfl rfl (c_ngt (by omega))) ?_
          refine Ops.q (q_pickF rfl rfl) ?_
          refine Ops.q (q_asg rfl) ?_
          refine Ops.to rfl ?_
          refine Cd.cond_f rfl ?_
          refine Cd.seq ?_
          refine Cd.region ?_
          refine Ops.q (q_fa fo_40_1 rfl) ?_
          refine Ops.q (q_ldB isA_3 rfl .here rfl) ?_
          by_cases h6 : ip < 0
          · refine Ops.q (q_cmp rfl rfl (c_lt h6)) ?_
            refine Ops.q (q_asg rfl) ?_
            refine Ops.to rfl ?_
            refine Cd.cond_t rfl ?_
            refine Cd.seq ?_
            refine Cd.region ?_
            refine Ops.q (q_asg rfl) ?_
            refine Ops.to rfl ?_
            refine Cd.rt (fn := Tryz.f23) [.int .i64 3] (by with_reducible repeat (first | exact rq_here | apply rq_then | apply rq_block)) rfl ⟨rfl, trivial⟩ ?_
            intro w' hs'
            exact ⟨by simp only [joinV]; unfold netCheck; grind, hs'.none⟩
          · refine Ops.q (q_cmp rfl rfl (c_nlt (by omega))) ?_
            refine Ops.q (q_asg rfl) ?_
            refine Ops.to rfl ?_
            refine Cd.cond_f rfl ?_
            refine Cd.skipTo rfl ?_
            refine Cd.seq ?_
            refine Cd.seq ?_
            refine Cd.region ?_
            refine Ops.q (q_fa fo_40_0 rfl) ?_
            refine Ops.q (q_ldB isA_37 rfl .here rfl) ?_
            refine Ops.q (q_len esz_37 rfl) ?_
            refine Ops.q (q_mv rfl) ?_
            refine Ops.to rfl ?_
            refine Cd.block ?_
            refine Cd.lp (σ := Nat) (fun k => k ≤ ns.length ∧ firstE nCheck (ns.drop k) = firstE nCheck ns) (fun k => [(1, .pointer (some ⟨b1, 0, none⟩)), (34, .slice na ns.length nc), (35, .int .i64 (ns.length : Int)), (36, .int .i64 (k : Int))]) (fun k => [blk b1 40 [.slice na ns.length nc, .int .i64 ip, .slice sa ss.length sc]]) (fun k => ns.length - k) 0 ⟨Nat.zero_le _, rfl⟩ ⟨rfl, rfl, rfl, rfl, trivial⟩ (fun _ hs => hs) ?_
            intro k hI
            have hI1 := hI.1
            refine Cd.seq ?_
            refine Cd.region ?_
            by_cases hk1 : (k : Int) < (ns.length : Int)
            · refine Ops.q (q_cmp rfl rfl (c_lt hk1)) ?_
              obtain ⟨x7, hx8⟩ : ∃ x, ns[k]? = some x := ⟨_, List.getElem?_eq_getElem (by omega)⟩
              obtain ⟨ab9, ao10, rfl⟩ := RoL.pos hN ePrm_len hx8
              refine Ops.to rfl ?_
              refine Cd.seq ?_
              refine Cd.cond_t rfl ?_
              refine Cd.skipTo rfl ?_
              refine Cd.seq ?_
              refine Cd.block ?_
              refine Cd.seq ?_
              refine Cd.region ?_
              refine Ops.q (q_ix (k := k) esz_37 rfl rfl (by omega)) ?_
              refine Ops.q (q_ldRN [.int .i64 x7.lk, .int .i64 x7.leak, .int .i64 x7.bias, .int .i64 x7.th, .int .i64 x7.rk, .int .i64 x7.rs, .int .i64 x7.fl, .int .i64 x7.rest] isA_62 sz_62 rfl (fun j u hu => hN.at ePrm_len hx8 hu)) ?_
              refine Ops.alc [.int .i64 0, .int .i64 0, .int .i64 0, .int .i64 0, .int .i64 0, .int .i64 0, .int .i64 0, .int .i64 0] zc_62 ?_
              intro b11
              refine Ops.stB [.int .i64 x7.lk, .int .i64 x7.leak, .int .i64 x7.bias, .int .i64 x7.th, .int .i64 x7.rk, .int .i64 x7.rs, .int .i64 x7.fl, .int .i64 x7.rest] [.int .i64 x7.lk, .int .i64 x7.leak, .int .i64 x7.bias, .int .i64 x7.th, .int .i64 x7.rk, .int .i64 x7.rs, .int .i64 x7.fl, .int .i64 x7.rest] sz_62 rfl rfl rfl (one rfl) .here rfl rfl ?_
              refine Ops.to rfl ?_
              refine Cd.seq ?_
              refine Cd.region ?_
              refine Ops.q (q_ldBN [.int .i64 x7.lk, .int .i64 x7.leak, .int .i64 x7.bias, .int .i64 x7.th, .int .i64 x7.rk, .int .i64 x7.rs, .int .i64 x7.fl, .int .i64 x7.rest] isA_62 sz_62 rfl .here rfl) ?_
              refine Ops.cp en_52 rfl (fun w hs => ncheck_c x7 w) ?_
              refine Ops.q (q_asg rfl) ?_
              refine Ops.to rfl ?_
              refine Cd.seq ?_
              refine Cd.region ?_
              refine Ops.q (q_mv rfl) ?_
              by_cases h12 : nCheck x7 = 0
              · refine Ops.q (q_cmp rfl rfl (c_nne h12)) ?_
                refine Ops.to rfl ?_
                refine Cd.cond_f rfl ?_
                refine Cd.skipTo rfl ?_
                refine Cd.region ?_
                refine Ops.q (q_ar rfl rfl (a_inc (by omega))) ?_
                refine Ops.q (q_mv rfl) ?_
                refine Ops.rnd (k + 1) rfl (⟨by omega, by rw [← hI.2]; exact (firstE_step hx8 (by omega)).symm⟩) (by omega) ⟨rfl, rfl, rfl, rfl, trivial⟩ (fun _ hs => (hs.pull .here).drop) 
              · refine Ops.q (q_cmp rfl rfl (c_ne h12)) ?_
                refine Ops.to rfl ?_
                refine Cd.cond_t rfl ?_
                refine Cd.seq ?_
                refine Cd.region ?_
                refine Ops.q (q_mv rfl) ?_
                refine Ops.q (q_asg rfl) ?_
                refine Ops.to rfl ?_
                refine Cd.rt (fn := Tryz.f23) [.int .i64 (nCheck x7)] (by with_reducible repeat (first | exact rq_here | apply rq_then | apply rq_block)) rfl ⟨rfl, trivial⟩ ?_
                intro w' hs'
                exact ⟨by simp only [joinV]; unfold netCheck; have := firstE_stop hx8 (by assumption); grind, hs'.none⟩
            · refine Ops.q (q_cmp rfl rfl (c_nlt (by omega))) ?_
              have hz := firstE_end (f := nCheck) (show ns.length ≤ k by omega)
              refine Ops.to rfl ?_
              refine Cd.seq ?_
              refine Cd.cond_f rfl ?_
              refine Cd.exitTo rfl ?_
              refine Cd.seq ?_
              refine Cd.seq ?_
              refine Cd.region ?_
              refine Ops.q (q_fa fo_40_2 rfl) ?_
              refine Ops.q (q_ldB isA_38 rfl .here rfl) ?_
              refine Ops.q (q_len esz_38 rfl) ?_
              refine Ops.q (q_mv rfl) ?_
              refine Ops.to rfl ?_
              refine Cd.block ?_
              refine Cd.lp (σ := Nat) (fun k => k ≤ ss.length ∧ firstE (synE ns.length ip) (ss.drop k) = firstE (synE ns.length ip) ss) (fun k => [(1, .pointer (some ⟨b1, 0, none⟩)), (47, .slice sa ss.length sc), (48, .int .i64 (ss.length : Int)), (49, .int .i64 (k : Int))]) (fun k => [blk b1 40 [.slice na ns.length nc, .int .i64 ip, .slice sa ss.length sc]]) (fun k => ss.length - k) 0 ⟨Nat.zero_le _, rfl⟩ ⟨rfl, rfl, rfl, rfl, trivial⟩ (fun _ hs => hs) ?_
              intro k hI
              have hI1 := hI.1
              refine Cd.seq ?_
              refine Cd.region ?_
              by_cases hk3 : (k : Int) < (ss.length : Int)
              · refine Ops.q (q_cmp rfl rfl (c_lt hk3)) ?_
                obtain ⟨x13, hx14⟩ : ∃ x, ss[k]? = some x := ⟨_, List.getElem?_eq_getElem (by omega)⟩
                obtain ⟨ab15, ao16, rfl⟩ := RoL.pos hS eSyn_len hx14
                refine Ops.to rfl ?_
                refine Cd.seq ?_
                refine Cd.cond_t rfl ?_
                refine Cd.skipTo rfl ?_
                refine Cd.seq ?_
                refine Cd.block ?_
                refine Cd.seq ?_
                refine Cd.region ?_
                refine Ops.q (q_ix (k := k) esz_38 rfl rfl (by omega)) ?_
                refine Ops.q (q_ldRN [.int .i64 x13.src, .int .i64 x13.dst, .int .i64 x13.wt, .int .i64 x13.dl] isA_109 sz_109 rfl (fun j u hu => hS.at eSyn_len hx14 hu)) ?_
                refine Ops.alc [.int .i64 0, .int .i64 0, .int .i64 0, .int .i64 0] zc_109 ?_
                intro b17
                refine Ops.stB [.int .i64 x13.src, .int .i64 x13.dst, .int .i64 x13.wt, .int .i64 x13.dl] [.int .i64 x13.src, .int .i64 x13.dst, .int .i64 x13.wt, .int .i64 x13.dl] sz_109 rfl rfl rfl (one rfl) .here rfl rfl ?_
                refine Ops.to rfl ?_
                refine Cd.seq ?_
                refine Cd.region ?_
                refine Ops.q (q_ldBN [.slice na ns.length nc, .int .i64 ip, .slice (some ⟨ab15, ao16, none⟩) ss.length sc] isA_40 sz_40 rfl (.there .here) rfl) ?_
                refine Ops.q (q_fa fo_109_0 rfl) ?_
                refine Ops.q (q_ldB isA_3 rfl .here rfl) ?_
                by_cases h18 : wi x13.src (-ip) ((ns.length : Int) - 1)
                · refine Ops.cp en_53 rfl (fun w hs => dT (source_c _ _ _ _ ns ip ss x13.src w (by omega) (by omega)) h18) ?_
                  refine Ops.q (q_not rfl) ?_
                  refine Ops.q (q_mv rfl) ?_
                  refine Ops.q (q_fa fo_109_1 rfl) ?_
                  refine Ops.q (q_ldB isA_3 rfl .here rfl) ?_
                  refine Ops.q (q_fa fo_40_0 rfl) ?_
                  refine Ops.q (q_ldB isA_37 rfl (.there .here) rfl) ?_
                  refine Ops.q (q_len esz_37 rfl) ?_
                  refine Ops.q (q_ar rfl rfl (a_sub (by omega))) ?_
                  by_cases h19 : wi x13.dst 0 ((ns.length : Int) - 1)
                  · refine Ops.cp en_54 rfl (fun w hs => dT (nwithin_c _ _ _ w) h19) ?_
                    refine Ops.q (q_not rfl) ?_
                    refine Ops.q (q_pickF rfl rfl) ?_
                    refine Ops.q (q_mv rfl) ?_
                    refine Ops.q (q_fa fo_109_2 rfl) ?_
                    refine Ops.q (q_ldB isA_3 rfl .here rfl) ?_
                    by_cases h20 : wi x13.wt (-32768) 32768
                    · refine Ops.cp en_54 rfl (fun w hs => dT (nwithin_c _ _ _ w) h20) ?_
                      refine Ops.q (q_not rfl) ?_
                      refine Ops.q (q_pickF rfl rfl) ?_
                      refine Ops.q (q_mv rfl) ?_
                      refine Ops.q (q_fa fo_109_3 rfl) ?_
                      refine Ops.q (q_ldB isA_3 rfl .here rfl) ?_
                      by_cases h21 : wi x13.dl 1 16
                      · refine Ops.cp en_54 rfl (fun w hs => dT (nwithin_c _ _ _ w) h21) ?_
                        refine Ops.q (q_not rfl) ?_
                        refine Ops.q (q_pickF rfl rfl) ?_
                        refine Ops.to rfl ?_
                        refine Cd.cond_f rfl ?_
                        refine Cd.skipTo rfl ?_
                        refine Cd.region ?_
                        refine Ops.q (q_ar rfl rfl (a_inc (by omega))) ?_
                        refine Ops.q (q_mv rfl) ?_
                        refine Ops.rnd (k + 1) rfl (⟨by omega, by rw [← hI.2]; exact (firstE_step hx14 (by unfold synE; rw [if_pos ⟨by assumption, by assumption, by assumption, by assumption⟩])).symm⟩) (by omega) ⟨rfl, rfl, rfl, rfl, trivial⟩ (fun _ hs => (hs.pull .here).drop) 
                      · refine Ops.cp en_54 rfl (fun w hs => dF (nwithin_c _ _ _ w) h21) ?_
                        refine Ops.q (q_not rfl) ?_
                        refine Ops.q (q_pickF rfl rfl) ?_
                        refine Ops.to rfl ?_
                        refine Cd.cond_t rfl ?_
                        refine Cd.seq ?_
                        refine Cd.region ?_
                        refine Ops.q (q_asg rfl) ?_
                        refine Ops.to rfl ?_
                        refine Cd.rt (fn := Tryz.f23) [.int .i64 3] (by with_reducible repeat (first | exact rq_here | apply rq_then | apply rq_block)) rfl ⟨rfl, trivial⟩ ?_
                        intro w' hs'
                        exact ⟨by simp only [joinV]; have h8 : synE ns.length ip x13 = 3 := by { unfold synE; rw [if_neg (by grind)] }; have := firstE_stop (f := synE ns.length ip) hx14 (by omega); unfold netCheck; grind, hs'.none⟩
                    · refine Ops.cp en_54 rfl (fun w hs => dF (nwithin_c _ _ _ w) h20) ?_
                      refine Ops.q (q_not rfl) ?_
                      refine Ops.q (q_pickF rfl rfl) ?_
                      refine Ops.q (q_mv rfl) ?_
                      refine Ops.sk ?_
                      refine Ops.sk ?_
                      refine Ops.sk ?_
                      refine Ops.sk ?_
                      refine Ops.q (q_pickT rfl rfl) ?_
                      refine Ops.to rfl ?_
                      refine Cd.cond_t rfl ?_
                      refine Cd.seq ?_
                      refine Cd.region ?_
                      refine Ops.q (q_asg rfl) ?_
                      refine Ops.to rfl ?_
                      refine Cd.rt (fn := Tryz.f23) [.int .i64 3] (by with_reducible repeat (first | exact rq_here | apply rq_then | apply rq_block)) rfl ⟨rfl, trivial⟩ ?_
                      intro w' hs'
                      exact ⟨by simp only [joinV]; have h8 : synE ns.length ip x13 = 3 := by { unfold synE; rw [if_neg (by grind)] }; have := firstE_stop (f := synE ns.length ip) hx14 (by omega); unfold netCheck; grind, hs'.none⟩
                  · refine Ops.cp en_54 rfl (fun w hs => dF (nwithin_c _ _ _ w) h19) ?_
                    refine Ops.q (q_not rfl) ?_
                    refine Ops.q (q_pickF rfl rfl) ?_
                    refine Ops.q (q_mv rfl) ?_
                    refine Ops.sk ?_
                    refine Ops.sk ?_
                    refine Ops.sk ?_
                    refine Ops.sk ?_
                    refine Ops.q (q_pickT rfl rfl) ?_
                    refine Ops.q (q_mv rfl) ?_
                    refine Ops.sk ?_
                    refine Ops.sk ?_
                    refine Ops.sk ?_
                    refine Ops.sk ?_
                    refine Ops.q (q_pickT rfl rfl) ?_
                    refine Ops.to rfl ?_
                    refine Cd.cond_t rfl ?_
                    refine Cd.seq ?_
                    refine Cd.region ?_
                    refine Ops.q (q_asg rfl) ?_
                    refine Ops.to rfl ?_
                    refine Cd.rt (fn := Tryz.f23) [.int .i64 3] (by with_reducible repeat (first | exact rq_here | apply rq_then | apply rq_block)) rfl ⟨rfl, trivial⟩ ?_
                    intro w' hs'
                    exact ⟨by simp only [joinV]; have h8 : synE ns.length ip x13 = 3 := by { unfold synE; rw [if_neg (by grind)] }; have := firstE_stop (f := synE ns.length ip) hx14 (by omega); unfold netCheck; grind, hs'.none⟩
                · refine Ops.cp en_53 rfl (fun w hs => dF (source_c _ _ _ _ ns ip ss x13.src w (by omega) (by omega)) h18) ?_
                  refine Ops.q (q_not rfl) ?_
                  refine Ops.q (q_mv rfl) ?_
                  refine Ops.sk ?_
                  refine Ops.sk ?_
                  refine Ops.sk ?_
                  refine Ops.sk ?_
                  refine Ops.sk ?_
                  refine Ops.sk ?_
                  refine Ops.sk ?_
                  refine Ops.sk ?_
                  refine Ops.q (q_pickT rfl rfl) ?_
                  refine Ops.q (q_mv rfl) ?_
                  refine Ops.sk ?_
                  refine Ops.sk ?_
                  refine Ops.sk ?_
                  refine Ops.sk ?_
                  refine Ops.q (q_pickT rfl rfl) ?_
                  refine Ops.q (q_mv rfl) ?_
                  refine Ops.sk ?_
                  refine Ops.sk ?_
                  refine Ops.sk ?_
                  refine Ops.sk ?_
                  refine Ops.q (q_pickT rfl rfl) ?_
                  refine Ops.to rfl ?_
                  refine Cd.cond_t rfl ?_
                  refine Cd.seq ?_
                  refine Cd.region ?_
                  refine Ops.q (q_asg rfl) ?_
                  refine Ops.to rfl ?_
                  refine Cd.rt (fn := Tryz.f23) [.int .i64 3] (by with_reducible repeat (first | exact rq_here | apply rq_then | apply rq_block)) rfl ⟨rfl, trivial⟩ ?_
                  intro w' hs'
                  exact ⟨by simp only [joinV]; have h8 : synE ns.length ip x13 = 3 := by { unfold synE; rw [if_neg (by grind)] }; have := firstE_stop (f := synE ns.length ip) hx14 (by omega); unfold netCheck; grind, hs'.none⟩
              · refine Ops.q (q_cmp rfl rfl (c_nlt (by omega))) ?_
                refine Ops.to rfl ?_
                refine Cd.seq ?_
                refine Cd.cond_f rfl ?_
                refine Cd.exitTo rfl ?_
                refine Cd.seq ?_
                refine Cd.region ?_
                refine Ops.q (q_asg rfl) ?_
                refine Ops.to rfl ?_
                refine Cd.rt (fn := Tryz.f23) [.int .i64 0] (by with_reducible repeat (first | exact rq_here | apply rq_then | apply rq_block)) rfl ⟨rfl, trivial⟩ ?_
                intro w' hs'
                exact ⟨by simp only [joinV]; have := firstE_end (f := synE ns.length ip) (show ss.length ≤ k by omega); unfold netCheck; grind, hs'.none⟩
end Go.Proofs.YtilcdghliigngaaGreatDoor
namespace Go.Proofs.YtilcdghliigngaaGreatDoor
open Go.RowKit Go.Proofs.YtilcdghliigngaaGreatDoorGl Go.Proofs.YtilcdghliigngaaGreatDoorPm
set_option linter.unusedVariables false
set_option linter.unusedSimpArgs false
theorem a_dec {k : Nat} (h : 0 < (k : Int)) (h2 : k < 9223372036854775807) : arV .sub .i64 (k : Int) 1 = some ((k - 1 : Nat) : Int) := by
  rw [a_sub (by omega)]; congr 1; omega
theorem ordered_c (na : Option Addr) (nc : Nat) (sa : Option Addr) (sc : Nat) (ns : List Prm) (ip : Int) (ss : List Syn) (ea : Option Addr) (ec : Nat) (evs : List Evt) (lim : Int) (w : World) (hip : -1000 ≤ ip ∧ ip ≤ 1000) (hlim : 0 ≤ lim ∧ lim ≤ 100000) (hE : RoL w ea eEvt evs) : Calls Tryz.prog 140 [.agg [.slice na ns.length nc, .int .i64 ip, .slice sa ss.length sc].toArray, .slice ea evs.length ec, .int .i64 lim].toArray w fun e w' => e = .returned (.int .i64 (orderedE ip lim evs)) ∧ Sat w w' [] := by
  refine fstart Tryz.func140 rfl rfl (Sat.nil w) ?_
  refine Cd.seq ?_
  refine Cd.region ?_
  refine Ops.box [.slice na ns.length nc, .int .i64 ip, .slice sa ss.length sc] rfl rfl ?_
  intro b1
  refine Ops.q (q_asg rfl) ?_
  refine Ops.to rfl ?_
  refine Cd.seq ?_
  refine Cd.seq ?_
  refine Cd.region ?_
  refine Ops.q (q_mv rfl) ?_
  refine Ops.q (q_len esz_43 rfl) ?_
  by_cases h2 : 65536 < (evs.length : Int)
  · refine Ops.q (q_cmp rfl rfl (c_gt h2)) ?_
    refine Ops.to rfl ?_
    refine Cd.cond_t rfl ?_
    refine Cd.seq ?_
    refine Cd.region ?_
    refine Ops.q (q_asg rfl) ?_
    refine Ops.to rfl ?_
    refine Cd.rt (fn := Tryz.f140) [.int .i64 9] (by with_reducible repeat (first | exact rq_here | apply rq_then | apply rq_block)) rfl ⟨rfl, trivial⟩ ?_
    intro w' hs'
    exact ⟨by simp only [joinV]; unfold orderedE; rw [if_pos (by omega)], hs'.none⟩
  · refine Ops.q (q_cmp rfl rfl (c_ngt (by omega))) ?_
    refine Ops.to rfl ?_
    refine Cd.cond_f rfl ?_
    refine Cd.skipTo rfl ?_
    refine Cd.seq ?_
    refine Cd.seq ?_
    refine Cd.region ?_
    refine Ops.q (q_mv rfl) ?_
    refine Ops.q (q_len esz_43 rfl) ?_
    refine Ops.q (q_mv rfl) ?_
    refine Ops.to rfl ?_
    refine Cd.block ?_
    refine Cd.lp (σ := Nat) (fun k => k ≤ evs.length ∧ ordE ip lim (prevE evs k) (evs.drop k) = ordE ip lim none evs) (fun k => [(1, .slice ea evs.length ec), (2, .int .i64 lim), (3, .pointer (some ⟨b1, 0, none⟩)), (12, .slice ea evs.length ec), (13, .int .i64 (evs.length : Int)), (14, .int .i64 (k : Int))]) (fun k => [blk b1 40 [.slice na ns.length nc, .int .i64 ip, .slice sa ss.length sc]]) (fun k => evs.length - k) 0 ⟨Nat.zero_le _, rfl⟩ ⟨rfl, rfl, rfl, rfl, rfl, rfl, trivial⟩ (fun _ hs => hs) ?_
    intro k hI
    have hI1 := hI.1
    refine Cd.seq ?_
    refine Cd.region ?_
    by_cases hk1 : (k : Int) < (evs.length : Int)
    · refine Ops.q (q_cmp rfl rfl (c_lt hk1)) ?_
      obtain ⟨x3, hx4⟩ : ∃ x, evs[k]? = some x := ⟨_, List.getElem?_eq_getElem (by omega)⟩
      obtain ⟨ab5, ao6, rfl⟩ := RoL.pos hE eEvt_len hx4
      refine Ops.to rfl ?_
      refine Cd.seq ?_
      refine Cd.cond_t rfl ?_
      refine Cd.skipTo rfl ?_
      refine Cd.seq ?_
      refine Cd.block ?_
      refine Cd.seq ?_
      refine Cd.region ?_
      refine Ops.q (q_mv rfl) ?_
      refine Ops.q (q_ix (k := k) esz_43 rfl rfl (by omega)) ?_
      refine Ops.q (q_ldRN [.int .i64 x3.tick, .int .i64 x3.id] isA_70 sz_70 rfl (fun j u hu => hE.at eEvt_len hx4 hu)) ?_
      refine Ops.alc [.int .i64 0, .int .i64 0] zc_70 ?_
      intro b7
      refine Ops.q (q_asg rfl) ?_
      refine Ops.stB [.int .i64 x3.tick, .int .i64 x3.id] [.int .i64 x3.tick, .int .i64 x3.id] sz_70 rfl rfl rfl (one rfl) .here rfl rfl ?_
      refine Ops.to rfl ?_
      refine Cd.block ?_
      refine Cd.seq ?_
      refine Cd.region ?_
      refine Ops.q (q_fa fo_70_0 rfl) ?_
      refine Ops.q (q_ldB isA_3 rfl .here rfl) ?_
      refine Ops.q (q_mv rfl) ?_
      refine Ops.q (q_ar rfl rfl (a_sub (by omega))) ?_
      by_cases h8 : wi x3.tick 0 (lim - 1)
      · refine Ops.cp en_54 rfl (fun w hs => dT (nwithin_c _ _ _ w) h8) ?_
        refine Ops.q (q_not rfl) ?_
        refine Ops.q (q_mv rfl) ?_
        refine Ops.q (q_fa fo_70_1 rfl) ?_
        refine Ops.q (q_ldB isA_3 rfl .here rfl) ?_
        refine Ops.q (q_fa fo_40_1 rfl) ?_
        refine Ops.q (q_ldB isA_3 rfl (.there .here) rfl) ?_
        refine Ops.q (q_ar rfl rfl (a_sub (by omega))) ?_
        by_cases h9 : wi x3.id 0 (ip - 1)
        · refine Ops.cp en_54 rfl (fun w hs => dT (nwithin_c _ _ _ w) h9) ?_
          refine Ops.q (q_not rfl) ?_
          refine Ops.q (q_pickF rfl rfl) ?_
          refine Ops.q (q_asg rfl) ?_
          refine Ops.to rfl ?_
          refine Cd.cond_f rfl ?_
          refine Cd.seq ?_
          refine Cd.draw rfl (by kernel_rfl) (.cons .here .nil) ?_
          intro F10 St11 hP12 hF13 hR14
          have hbad : ¬ evBad ip lim x3 := by unfold evBad; simp_all
          refine Dr.q (i := 0) hP12 rfl (by kernel_rfl) (q_mv rfl) ?_
          by_cases h15 : 0 < (k : Int)
          · refine Dr.q (i := 1) hP12 rfl (by kernel_rfl) (q_cmp rfl rfl (c_gt h15)) ?_
            obtain ⟨x16, hx17⟩ : ∃ x, evs[k - 1]? = some x := ⟨_, List.getElem?_eq_getElem (by omega)⟩
            refine Dr.q (i := 2) hP12 rfl (by kernel_rfl) (q_mv rfl) ?_
            refine Dr.q (i := 3) hP12 rfl (by kernel_rfl) (q_fa fo_70_0 rfl) ?_
            refine Dr.q (i := 4) hP12 rfl (by kernel_rfl) (q_ldB isA_3 rfl .here rfl) ?_
            refine Dr.q (i := 5) hP12 rfl (by kernel_rfl) (q_mv rfl) ?_
            refine Dr.q (i := 6) hP12 rfl (by kernel_rfl) (q_mv rfl) ?_
            refine Dr.q (i := 7) hP12 rfl (by kernel_rfl) (q_ar rfl rfl (a_dec (by assumption) (by omega))) ?_
            refine Dr.q (i := 8) hP12 rfl (by kernel_rfl) (q_ix (k := (k - 1)) esz_43 rfl rfl (by omega)) ?_
            refine Dr.q (i := 9) hP12 rfl (by kernel_rfl) (q_fa fo_70_0 rfl) ?_
            refine Dr.q (i := 10) hP12 rfl (by kernel_rfl) (q_ldR isA_3 rfl (hE.at eEvt_len hx17 rfl)) ?_
            by_cases h18 : x3.tick < x16.tick
            · refine Dr.q (i := 11) hP12 rfl (by kernel_rfl) (q_cmp rfl rfl (c_lt h18)) ?_
              refine Dr.q (i := 12) hP12 rfl (by kernel_rfl) (q_mv rfl) ?_
              refine Dr.sk (i := 13) rfl (by kernel_rfl) ?_
              refine Dr.sk (i := 14) rfl (by kernel_rfl) ?_
              refine Dr.sk (i := 15) rfl (by kernel_rfl) ?_
              refine Dr.sk (i := 16) rfl (by kernel_rfl) ?_
              refine Dr.sk (i := 17) rfl (by kernel_rfl) ?_
              refine Dr.sk (i := 18) rfl (by kernel_rfl) ?_
              refine Dr.sk (i := 19) rfl (by kernel_rfl) ?_
              refine Dr.sk (i := 20) rfl (by kernel_rfl) ?_
              refine Dr.sk (i := 21) rfl (by kernel_rfl) ?_
              refine Dr.sk (i := 22) rfl (by kernel_rfl) ?_
              refine Dr.sk (i := 23) rfl (by kernel_rfl) ?_
              refine Dr.sk (i := 24) rfl (by kernel_rfl) ?_
              refine Dr.sk (i := 25) rfl (by kernel_rfl) ?_
              refine Dr.sk (i := 26) rfl (by kernel_rfl) ?_
              refine Dr.sk (i := 27) rfl (by kernel_rfl) ?_
              refine Dr.sk (i := 28) rfl (by kernel_rfl) ?_
              refine Dr.sk (i := 29) rfl (by kernel_rfl) ?_
              refine Dr.sk (i := 30) rfl (by kernel_rfl) ?_
              refine Dr.sk (i := 31) rfl (by kernel_rfl) ?_
              refine Dr.sk (i := 32) rfl (by kernel_rfl) ?_
              refine Dr.q (i := 33) hP12 rfl (by kernel_rfl) (q_pickT rfl rfl) ?_
              refine Dr.q (i := 34) hP12 rfl (by kernel_rfl) (q_pickT rfl rfl) ?_
              refine Dr.q (i := 35) hP12 rfl (by kernel_rfl) (q_asg rfl) ?_
              refine Dr.tail 36 (by kernel_rfl) ?_
              refine Ops.sat ?_ (fun _ hs => hR14 .here hs)
              refine Ops.to rfl ?_
              refine Cd.cond_t rfl ?_
              refine Cd.seq ?_
              refine Cd.region ?_
              refine Ops.q (q_asg rfl) ?_
              refine Ops.to rfl ?_
              refine Cd.rt (fn := Tryz.f140) [.int .i64 2] (by with_reducible repeat (first | exact rq_here | apply rq_then | apply rq_block)) rfl ⟨rfl, trivial⟩ ?_
              intro w' hs'
              exact ⟨by simp only [joinV]; have := ord_not (ip := ip) (lim := lim) hx4 hbad (prevE_pos (by assumption) (by assumption)) (by unfold evNot; omega); unfold orderedE; rw [if_neg (by omega)]; grind, hs'.none⟩
            · refine Dr.q (i := 11) hP12 rfl (by kernel_rfl) (q_cmp rfl rfl (c_nlt (by omega))) ?_
              refine Dr.q (i := 12) hP12 rfl (by kernel_rfl) (q_mv rfl) ?_
              refine Dr.q (i := 13) hP12 rfl (by kernel_rfl) (q_fa fo_70_0 rfl) ?_
              refine Dr.q (i := 14) hP12 rfl (by kernel_rfl) (q_ldB isA_3 rfl .here rfl) ?_
              refine Dr.q (i := 15) hP12 rfl (by kernel_rfl) (q_mv rfl) ?_
              refine Dr.q (i := 16) hP12 rfl (by kernel_rfl) (q_mv rfl) ?_
              refine Dr.q (i := 17) hP12 rfl (by kernel_rfl) (q_ar rfl rfl (a_dec (by assumption) (by omega))) ?_
              refine Dr.q (i := 18) hP12 rfl (by kernel_rfl) (q_ix (k := (k - 1)) esz_43 rfl rfl (by omega)) ?_
              refine Dr.q (i := 19) hP12 rfl (by kernel_rfl) (q_fa fo_70_0 rfl) ?_
              refine Dr.q (i := 20) hP12 rfl (by kernel_rfl) (q_ldR isA_3 rfl (hE.at eEvt_len hx17 rfl)) ?_
              by_cases h19 : x3.tick = x16.tick
              · refine Dr.q (i := 21) hP12 rfl (by kernel_rfl) (q_cmp rfl rfl (c_eq h19)) ?_
                refine Dr.q (i := 22) hP12 rfl (by kernel_rfl) (q_mv rfl) ?_
                refine Dr.q (i := 23) hP12 rfl (by kernel_rfl) (q_fa fo_70_1 rfl) ?_
                refine Dr.q (i := 24) hP12 rfl (by kernel_rfl) (q_ldB isA_3 rfl .here rfl) ?_
                refine Dr.q (i := 25) hP12 rfl (by kernel_rfl) (q_mv rfl) ?_
                refine Dr.q (i := 26) hP12 rfl (by kernel_rfl) (q_mv rfl) ?_
                refine Dr.q (i := 27) hP12 rfl (by kernel_rfl) (q_ar rfl rfl (a_dec (by assumption) (by omega))) ?_
                refine Dr.q (i := 28) hP12 rfl (by kernel_rfl) (q_ix (k := (k - 1)) esz_43 rfl rfl (by omega)) ?_
                refine Dr.q (i := 29) hP12 rfl (by kernel_rfl) (q_fa fo_70_1 rfl) ?_
                refine Dr.q (i := 30) hP12 rfl (by kernel_rfl) (q_ldR isA_3 rfl (hE.at eEvt_len hx17 rfl)) ?_
                by_cases h20 : x3.id ≤ x16.id
                · refine Dr.q (i := 31) hP12 rfl (by kernel_rfl) (q_cmp rfl rfl (c_le h20)) ?_
                  refine Dr.q (i := 32) hP12 rfl (by kernel_rfl) (q_pickT rfl rfl) ?_
                  refine Dr.q (i := 33) hP12 rfl (by kernel_rfl) (q_pickF rfl rfl) ?_
                  refine Dr.q (i := 34) hP12 rfl (by kernel_rfl) (q_pickT rfl rfl) ?_
                  refine Dr.q (i := 35) hP12 rfl (by kernel_rfl) (q_asg rfl) ?_
                  refine Dr.tail 36 (by kernel_rfl) ?_
                  refine Ops.sat ?_ (fun _ hs => hR14 .here hs)
                  refine Ops.to rfl ?_
                  refine Cd.cond_t rfl ?_
                  refine Cd.seq ?_
                  refine Cd.region ?_
                  refine Ops.q (q_asg rfl) ?_
                  refine Ops.to rfl ?_
                  refine Cd.rt (fn := Tryz.f140) [.int .i64 2] (by with_reducible repeat (first | exact rq_here | apply rq_then | apply rq_block)) rfl ⟨rfl, trivial⟩ ?_
                  intro w' hs'
                  exact ⟨by simp only [joinV]; have := ord_not (ip := ip) (lim := lim) hx4 hbad (prevE_pos (by assumption) (by assumption)) (by unfold evNot; omega); unfold orderedE; rw [if_neg (by omega)]; grind, hs'.none⟩
                · refine Dr.q (i := 31) hP12 rfl (by kernel_rfl) (q_cmp rfl rfl (c_nle (by omega))) ?_
                  refine Dr.q (i := 32) hP12 rfl (by kernel_rfl) (q_pickT rfl rfl) ?_
                  refine Dr.q (i := 33) hP12 rfl (by kernel_rfl) (q_pickF rfl rfl) ?_
                  refine Dr.q (i := 34) hP12 rfl (by kernel_rfl) (q_pickT rfl rfl) ?_
                  refine Dr.q (i := 35) hP12 rfl (by kernel_rfl) (q_asg rfl) ?_
                  refine Dr.tail 36 (by kernel_rfl) ?_
                  refine Ops.sat ?_ (fun _ hs => hR14 .here hs)
                  refine Ops.to rfl ?_
                  refine Cd.cond_f rfl ?_
                  refine Cd.skipTo rfl ?_
                  refine Cd.region ?_
                  refine Ops.q (q_ar rfl rfl (a_inc (by omega))) ?_
                  refine Ops.q (q_mv rfl) ?_
                  refine Ops.rnd (k + 1) rfl (⟨by omega, by rw [← hI.2]; exact (ord_step hx4 hbad (by intro q' hq'; first | (rw [prevE_zero (by assumption)] at hq'; cases hq') | (rw [prevE_pos (by assumption) (by assumption)] at hq'; obtain rfl := Option.some.inj hq'; unfold evNot; omega))).symm⟩) (by omega) ⟨rfl, rfl, rfl, rfl, rfl, rfl, trivial⟩ (fun _ hs => (hs.pull .here).drop) 
              · refine Dr.q (i := 21) hP12 rfl (by kernel_rfl) (q_cmp rfl rfl (c_neq h19)) ?_
                refine Dr.q (i := 22) hP12 rfl (by kernel_rfl) (q_mv rfl) ?_
                refine Dr.sk (i := 23) rfl (by kernel_rfl) ?_
                refine Dr.sk (i := 24) rfl (by kernel_rfl) ?_
                refine Dr.sk (i := 25) rfl (by kernel_rfl) ?_
                refine Dr.sk (i := 26) rfl (by kernel_rfl) ?_
                refine Dr.sk (i := 27) rfl (by kernel_rfl) ?_
                refine Dr.sk (i := 28) rfl (by kernel_rfl) ?_
                refine Dr.sk (i := 29) rfl (by kernel_rfl) ?_
                refine Dr.sk (i := 30) rfl (by kernel_rfl) ?_
                refine Dr.sk (i := 31) rfl (by kernel_rfl) ?_
                refine Dr.q (i := 32) hP12 rfl (by kernel_rfl) (q_pickF rfl rfl) ?_
                refine Dr.q (i := 33) hP12 rfl (by kernel_rfl) (q_pickF rfl rfl) ?_
                refine Dr.q (i := 34) hP12 rfl (by kernel_rfl) (q_pickT rfl rfl) ?_
                refine Dr.q (i := 35) hP12 rfl (by kernel_rfl) (q_asg rfl) ?_
                refine Dr.tail 36 (by kernel_rfl) ?_
                refine Ops.sat ?_ (fun _ hs => hR14 .here hs)
                refine Ops.to rfl ?_
                refine Cd.cond_f rfl ?_
                refine Cd.skipTo rfl ?_
                refine Cd.region ?_
                refine Ops.q (q_ar rfl rfl (a_inc (by omega))) ?_
                refine Ops.q (q_mv rfl) ?_
                refine Ops.rnd (k + 1) rfl (⟨by omega, by rw [← hI.2]; exact (ord_step hx4 hbad (by intro q' hq'; first | (rw [prevE_zero (by assumption)] at hq'; cases hq') | (rw [prevE_pos (by assumption) (by assumption)] at hq'; obtain rfl := Option.some.inj hq'; unfold evNot; omega))).symm⟩) (by omega) ⟨rfl, rfl, rfl, rfl, rfl, rfl, trivial⟩ (fun _ hs => (hs.pull .here).drop) 
          · refine Dr.q (i := 1) hP12 rfl (by kernel_rfl) (q_cmp rfl rfl (c_ngt (by omega))) ?_
            refine Dr.q (i := 2) hP12 rfl (by kernel_rfl) (q_mv rfl) ?_
            refine Dr.sk (i := 3) rfl (by kernel_rfl) ?_
            refine Dr.sk (i := 4) rfl (by kernel_rfl) ?_
            refine Dr.sk (i := 5) rfl (by kernel_rfl) ?_
            refine Dr.sk (i := 6) rfl (by kernel_rfl) ?_
            refine Dr.sk (i := 7) rfl (by kernel_rfl) ?_
            refine Dr.sk (i := 8) rfl (by kernel_rfl) ?_
            refine Dr.sk (i := 9) rfl (by kernel_rfl) ?_
            refine Dr.sk (i := 10) rfl (by kernel_rfl) ?_
            refine Dr.sk (i := 11) rfl (by kernel_rfl) ?_
            refine Dr.sk (i := 12) rfl (by kernel_rfl) ?_
            refine Dr.sk (i := 13) rfl (by kernel_rfl) ?_
            refine Dr.sk (i := 14) rfl (by kernel_rfl) ?_
            refine Dr.sk (i := 15) rfl (by kernel_rfl) ?_
            refine Dr.sk (i := 16) rfl (by kernel_rfl) ?_
            refine Dr.sk (i := 17) rfl (by kernel_rfl) ?_
            refine Dr.sk (i := 18) rfl (by kernel_rfl) ?_
            refine Dr.sk (i := 19) rfl (by kernel_rfl) ?_
            refine Dr.sk (i := 20) rfl (by kernel_rfl) ?_
            refine Dr.sk (i := 21) rfl (by kernel_rfl) ?_
            refine Dr.sk (i := 22) rfl (by kernel_rfl) ?_
            refine Dr.sk (i := 23) rfl (by kernel_rfl) ?_
            refine Dr.sk (i := 24) rfl (by kernel_rfl) ?_
            refine Dr.sk (i := 25) rfl (by kernel_rfl) ?_
            refine Dr.sk (i := 26) rfl (by kernel_rfl) ?_
            refine Dr.sk (i := 27) rfl (by kernel_rfl) ?_
            refine Dr.sk (i := 28) rfl (by kernel_rfl) ?_
            refine Dr.sk (i := 29) rfl (by kernel_rfl) ?_
            refine Dr.sk (i := 30) rfl (by kernel_rfl) ?_
            refine Dr.sk (i := 31) rfl (by kernel_rfl) ?_
            refine Dr.sk (i := 32) rfl (by kernel_rfl) ?_
            refine Dr.sk (i := 33) rfl (by kernel_rfl) ?_
            refine Dr.q (i := 34) hP12 rfl (by kernel_rfl) (q_pickF rfl rfl) ?_
            refine Dr.q (i := 35) hP12 rfl (by kernel_rfl) (q_asg rfl) ?_
            refine Dr.tail 36 (by kernel_rfl) ?_
            refine Ops.sat ?_ (fun _ hs => hR14 .here hs)
            refine Ops.to rfl ?_
            refine Cd.cond_f rfl ?_
            refine Cd.skipTo rfl ?_
            refine Cd.region ?_
            refine Ops.q (q_ar rfl rfl (a_inc (by omega))) ?_
            refine Ops.q (q_mv rfl) ?_
            refine Ops.rnd (k + 1) rfl (⟨by omega, by rw [← hI.2]; exact (ord_step hx4 hbad (by intro q' hq'; first | (rw [prevE_zero (by assumption)] at hq'; cases hq') | (rw [prevE_pos (by assumption) (by assumption)] at hq'; obtain rfl := Option.some.inj hq'; unfold evNot; omega))).symm⟩) (by omega) ⟨rfl, rfl, rfl, rfl, rfl, rfl, trivial⟩ (fun _ hs => (hs.pull .here).drop) 
        · refine Ops.cp en_54 rfl (fun w hs => dF (nwithin_c _ _ _ w) h9) ?_
          refine Ops.q (q_not rfl) ?_
          refine Ops.q (q_pickF rfl rfl) ?_
          refine Ops.q (q_asg rfl) ?_
          refine Ops.to rfl ?_
          refine Cd.cond_t rfl ?_
          refine Cd.seq ?_
          refine Cd.region ?_
          refine Ops.q (q_asg rfl) ?_
          refine Ops.to rfl ?_
          refine Cd.rt (fn := Tryz.f140) [.int .i64 3] (by with_reducible repeat (first | exact rq_here | apply rq_then | apply rq_block)) rfl ⟨rfl, trivial⟩ ?_
          intro w' hs'
          exact ⟨by simp only [joinV]; have := ord_bad (ip := ip) (lim := lim) hx4 (by unfold evBad; simp_all); unfold orderedE; rw [if_neg (by omega)]; grind, hs'.none⟩
      · refine Ops.cp en_54 rfl (fun w hs => dF (nwithin_c _ _ _ w) h8) ?_
        refine Ops.q (q_not rfl) ?_
        refine Ops.q (q_mv rfl) ?_
        refine Ops.sk ?_
        refine Ops.sk ?_
        refine Ops.sk ?_
        refine Ops.sk ?_
        refine Ops.sk ?_
        refine Ops.sk ?_
        refine Ops.sk ?_
        refine Ops.q (q_pickT rfl rfl) ?_
        refine Ops.q (q_asg rfl) ?_
        refine Ops.to rfl ?_
        refine Cd.cond_t rfl ?_
        refine Cd.seq ?_
        refine Cd.region ?_
        refine Ops.q (q_asg rfl) ?_
        refine Ops.to rfl ?_
        refine Cd.rt (fn := Tryz.f140) [.int .i64 3] (by with_reducible repeat (first | exact rq_here | apply rq_then | apply rq_block)) rfl ⟨rfl, trivial⟩ ?_
        intro w' hs'
        exact ⟨by simp only [joinV]; have := ord_bad (ip := ip) (lim := lim) hx4 (by unfold evBad; simp_all); unfold orderedE; rw [if_neg (by omega)]; grind, hs'.none⟩
    · refine Ops.q (q_cmp rfl rfl (c_nlt (by omega))) ?_
      refine Ops.to rfl ?_
      refine Cd.seq ?_
      refine Cd.cond_f rfl ?_
      refine Cd.exitTo rfl ?_
      refine Cd.seq ?_
      refine Cd.region ?_
      refine Ops.q (q_asg rfl) ?_
      refine Ops.to rfl ?_
      refine Cd.rt (fn := Tryz.f140) [.int .i64 0] (by with_reducible repeat (first | exact rq_here | apply rq_then | apply rq_block)) rfl ⟨rfl, trivial⟩ ?_
      intro w' hs'
      exact ⟨by simp only [joinV]; have := ord_end (ip := ip) (lim := lim) (show evs.length ≤ k by omega); unfold orderedE; rw [if_neg (by omega)]; grind, hs'.none⟩
theorem netCheck_ip {ns : List Prm} {ip : Int} {ss : List Syn} (h : netCheck ⟨ns, ip, ss⟩ = 0) : -1000 ≤ ip ∧ ip ≤ 1000 := by
  unfold netCheck at h; simp only [] at h; grind
theorem prepared_c (na : Option Addr) (nc : Nat) (sa : Option Addr) (sc : Nat) (ns : List Prm) (ip : Int) (ss : List Syn) (ea : Option Addr) (ec : Nat) (evs : List Evt) (t lim : Int) (w : World) (hlim : 0 ≤ lim ∧ lim ≤ 100000) (hN : RoL w na ePrm ns) (hS : RoL w sa eSyn ss) (hE : RoL w ea eEvt evs) : Calls Tryz.prog 118 [.agg [.slice na ns.length nc, .int .i64 ip, .slice sa ss.length sc].toArray, .slice ea evs.length ec, .int .i64 t, .int .i64 lim].toArray w fun e w' => e = .returned (.int .i64 (preparedE ⟨ns, ip, ss⟩ evs t lim)) ∧ Sat w w' [] := by
  refine fstart Tryz.func118 rfl rfl (Sat.nil w) ?_
  refine Cd.seq ?_
  refine Cd.region ?_
  refine Ops.box [.slice na ns.length nc, .int .i64 ip, .slice sa ss.length sc] rfl rfl ?_
  intro b1
  refine Ops.q (q_asg rfl) ?_
  refine Ops.to rfl ?_
  refine Cd.seq ?_
  refine Cd.seq ?_
  refine Cd.region ?_
  refine Ops.q (q_ldBN [.slice na ns.length nc, .int .i64 ip, .slice sa ss.length sc] isA_40 sz_40 rfl .here rfl) ?_
  refine Ops.cp en_23 rfl (fun w hs => check_c _ _ _ _ ns ip ss w (hN.later hs.below) (hS.later hs.below)) ?_
  refine Ops.q (q_asg rfl) ?_
  refine Ops.to rfl ?_
  refine Cd.seq ?_
  refine Cd.region ?_
  refine Ops.q (q_mv rfl) ?_
  by_cases h2 : netCheck ⟨ns, ip, ss⟩ = 0
  · refine Ops.q (q_cmp rfl rfl (c_nne h2)) ?_
    have hip := netCheck_ip h2
    refine Ops.to rfl ?_
    refine Cd.cond_f rfl ?_
    refine Cd.skipTo rfl ?_
    refine Cd.seq ?_
    refine Cd.seq ?_
    refine Cd.region ?_
    refine Ops.q (q_mv rfl) ?_
    refine Ops.q (q_mv rfl) ?_
    by_cases h3 : wi t 0 lim
    · refine Ops.cp en_54 rfl (fun w hs => dT (nwithin_c _ _ _ w) h3) ?_
      refine Ops.q (q_not rfl) ?_
      refine Ops.to rfl ?_
      refine Cd.cond_f rfl ?_
      refine Cd.skipTo rfl ?_
      refine Cd.seq ?_
      refine Cd.region ?_
      refine Ops.q (q_ldBN [.slice na ns.length nc, .int .i64 ip, .slice sa ss.length sc] isA_40 sz_40 rfl .here rfl) ?_
      refine Ops.q (q_mv rfl) ?_
      refine Ops.q (q_mv rfl) ?_
      refine Ops.cp en_140 rfl (fun w hs => ordered_c _ _ _ _ ns ip ss _ _ evs lim w (by omega) (by omega) (hE.later hs.below)) ?_
      refine Ops.q (q_asg rfl) ?_
      refine Ops.to rfl ?_
      refine Cd.rt (fn := Tryz.f118) [.int .i64 (orderedE ip lim evs)] (by with_reducible repeat (first | exact rq_here | apply rq_then | apply rq_block)) rfl ⟨rfl, trivial⟩ ?_
      intro w' hs
      exact ⟨by simp only [joinV]; unfold preparedE; grind, hs.none⟩
    · refine Ops.cp en_54 rfl (fun w hs => dF (nwithin_c _ _ _ w) h3) ?_
      refine Ops.q (q_not rfl) ?_
      refine Ops.to rfl ?_
      refine Cd.cond_t rfl ?_
      refine Cd.seq ?_
      refine Cd.region ?_
      refine Ops.q (q_asg rfl) ?_
      refine Ops.to rfl ?_
      refine Cd.rt (fn := Tryz.f118) [.int .i64 3] (by with_reducible repeat (first | exact rq_here | apply rq_then | apply rq_block)) rfl ⟨rfl, trivial⟩ ?_
      intro w' hs
      exact ⟨by simp only [joinV]; unfold preparedE; grind, hs.none⟩
  · refine Ops.q (q_cmp rfl rfl (c_ne h2)) ?_
    refine Ops.to rfl ?_
    refine Cd.cond_t rfl ?_
    refine Cd.seq ?_
    refine Cd.region ?_
    refine Ops.q (q_mv rfl) ?_
    refine Ops.q (q_asg rfl) ?_
    refine Ops.to rfl ?_
    refine Cd.rt (fn := Tryz.f118) [.int .i64 (netCheck ⟨ns, ip, ss⟩)] (by with_reducible repeat (first | exact rq_here | apply rq_then | apply rq_block)) rfl ⟨rfl, trivial⟩ ?_
    intro w' hs
    exact ⟨by simp only [joinV]; unfold preparedE; grind, hs.none⟩
end Go.Proofs.YtilcdghliigngaaGreatDoor
namespace Go.Proofs.YtilcdghliigngaaGreatDoor
open Go.RowKit Go.Proofs.YtilcdghliigngaaGreatDoorGl Go.Proofs.YtilcdghliigngaaGreatDoorPm
set_option linter.unusedVariables false
set_option linter.unusedSimpArgs false
theorem mpT_125 : mpT Tryz.prog 125 = some (3, 38) := by kernel_rfl
def zvT (P : Program) (t : TypeId) : Option Value := (P.info? t).bind (·.zero)
theorem run_zv {P : Program} {t : TypeId} {v : Value} (h : zvT P t = some v) (w : World) : (zeroValue t).run P w = .ok v w := by
  unfold zvT at h
  cases hi : P.info? t with
  | none => rw [hi] at h; cases h
  | some i =>
    rw [hi] at h
    simp only [Option.bind_some] at h
    simp [zeroValue, typeInfo, hi, h]
theorem zv_38 : zvT Tryz.prog 38 = some (.slice none 0 0) := by kernel_rfl
structure WEnt where
  (key : Int) (a : Option Addr) (cap : Nat) (ss : List Syn)
abbrev kv (e : WEnt) : Int × Value := (e.key, .slice e.a e.ss.length e.cap)
abbrev wrow (e : WEnt) : Atom := row e.a e.cap 109 4 e.ss.length (e.ss.flatMap eSyn)
def filt (l : List Syn) (k : Int) : List Syn := l.filter (fun s => s.src == k)
def fi (E : List WEnt) (k : Int) : Option Nat := (findI k (E.map kv) 0).map (·.1)
structure WI (E : List WEnt) (l : List Syn) : Prop where
  has : ∀ k i, fi E k = some i → ∃ e, E[i]? = some e ∧ e.key = k ∧ e.ss = filt l k
  non : ∀ k, fi E k = none → filt l k = []
theorem findI_keys (k : Int) : ∀ (es es' : List (Int × Value)) (j : Nat), es.map (·.1) = es'.map (·.1) → (findI k es j).map (·.1) = (findI k es' j).map (·.1)
  | [], [], _, _ => rfl
  | [], _ :: _, _, h => by simp at h
  | _ :: _, [], _, h => by simp at h
  | (a, b) :: es, (a', b') :: es', j, h => by
    simp only [List.map_cons, List.cons.injEq] at h
    obtain ⟨h1, h2⟩ := h
    simp only [findI, ← h1]
    split
    · rfl
    · exact findI_keys k es es' (j + 1) h2
theorem findI_append (k : Int) (k' : Int) (v : Value) : ∀ (es : List (Int × Value)) (j : Nat), findI k (es ++ [(k', v)]) j = match findI k es j with | some r => some r | none => if k = k' then some (j + es.length, v) else none
  | [], j => by simp [findI]
  | (a, b) :: es, j => by
    simp only [List.cons_append, findI]
    by_cases h : k = a
    · simp [h]
    · simp only [h, if_false]
      rw [findI_append k k' v es (j + 1)]
      cases findI k es (j + 1) with
      | some r => rfl
      | none => simp only [List.length_cons]; rw [show j + 1 + es.length = j + (es.length + 1) by omega]
theorem fi_get {E : List WEnt} {k : Int} {i : Nat} {v : Value} (h : findI k (E.map kv) 0 = some (i, v)) : ∃ e, E[i]? = some e ∧ e.key = k ∧ v = .slice e.a e.ss.length e.cap := by
  have := findI_get k _ i v h
  rw [List.getElem?_map] at this
  cases he : E[i]? with
  | none => rw [he] at this; cases this
  | some e =>
    rw [he] at this
    simp only [Option.map_some, Option.some.injEq, Prod.mk.injEq] at this
    exact ⟨e, rfl, this.1, this.2.symm⟩
theorem filt_app (l : List Syn) (x : Syn) (k : Int) : filt (l ++ [x]) k = if x.src = k then filt l k ++ [x] else filt l k := by
  unfold filt; rw [List.filter_append]
  by_cases h : x.src = k <;> simp [h]
theorem WI.nil : WI [] [] := ⟨fun k i h => by simp [fi, findI] at h, fun k _ => rfl⟩
theorem WI.set {E : List WEnt} {l : List Syn} {x : Syn} {i c' : Nat} {a' : Option Addr} {e : WEnt} (h : WI E l) (hi : fi E x.src = some i) (he : E[i]? = some e) (hk : e.key = x.src) (hs : e.ss = filt l x.src) : WI (E.set i ⟨e.key, a', c', e.ss ++ [x]⟩) (l ++ [x]) := by
  have hkeys : ∀ k, fi (E.set i ⟨e.key, a', c', e.ss ++ [x]⟩) k = fi E k := fun k => by
    refine findI_keys k _ _ 0 ?_
    apply List.ext_getElem?
    intro j
    simp only [List.getElem?_map, List.getElem?_set]
    by_cases hj : i = j
    · subst hj
      obtain ⟨hlt, hge⟩ := List.getElem?_eq_some_iff.1 he
      simp [hlt, hge]
    · simp [hj]
  refine ⟨fun k j hj => ?_, fun k hn => ?_⟩
  · rw [hkeys] at hj
    obtain ⟨e2, h1, h2, h3⟩ := h.has k j hj
    rw [filt_app]
    by_cases hij : i = j
    · subst hij
      rw [he] at h1; obtain rfl := Option.some.inj h1
      have hlt := (List.getElem?_eq_some_iff.1 he).1
      refine ⟨⟨e.key, a', c', e.ss ++ [x]⟩, by simp [hlt], h2, ?_⟩
      rw [if_pos (by rw [← hk, h2])]
      simp [h3]
    · refine ⟨e2, by simp [List.getElem?_set, hij, h1], h2, ?_⟩
      rw [if_neg (fun hx => hij (by rw [hx] at hi; rw [hi] at hj; exact Option.some.inj hj)), h3]
  · rw [hkeys] at hn
    rw [filt_app, if_neg (fun hx => by rw [hx, hn] at hi; cases hi)]
    exact h.non k hn
theorem WI.app {E : List WEnt} {l : List Syn} {x : Syn} {c' : Nat} {a' : Option Addr} (h : WI E l) (hi : fi E x.src = none) : WI (E ++ [⟨x.src, a', c', [x]⟩]) (l ++ [x]) := by
  have hf : ∀ k, fi (E ++ [⟨x.src, a', c', [x]⟩]) k = match fi E k with | some r => some r | none => if k = x.src then some E.length else none := fun k => by
    unfold fi
    rw [List.map_append, List.map_cons, List.map_nil, findI_append]
    cases findI k (E.map kv) 0 with
    | some r => rfl
    | none => by_cases hk : k = x.src <;> simp [hk]
  refine ⟨fun k j hj => ?_, fun k hn => ?_⟩
  · rw [hf] at hj
    rw [filt_app]
    cases hk : fi E k with
    | some r =>
      rw [hk] at hj
      obtain rfl : r = j := Option.some.inj hj
      obtain ⟨e2, h1, h2, h3⟩ := h.has k r hk
      refine ⟨e2, by rw [List.getElem?_append_left (List.getElem?_eq_some_iff.1 h1).1]; exact h1, h2, ?_⟩
      rw [if_neg (fun hx => by rw [hx, hk] at hi; cases hi), h3]
    | none =>
      rw [hk] at hj
      simp only [] at hj
      split at hj
      · rename_i hkx
        obtain rfl := Option.some.inj hj
        refine ⟨⟨x.src, a', c', [x]⟩, by simp, hkx.symm, ?_⟩
        rw [if_pos hkx.symm, h.non k hk]; rfl
      · cases hj
  · rw [hf] at hn
    cases hk : fi E k with
    | some r => rw [hk] at hn; cases hn
    | none =>
      rw [hk] at hn
      simp only [] at hn
      split at hn
      · cases hn
      · rename_i hne
        rw [filt_app, if_neg (fun hx => hne hx.symm)]
        exact h.non k hk
theorem updI_set {E : List WEnt} {k : Int} {i : Nat} {e e' : WEnt} (hi : fi E k = some i) (he : E[i]? = some e) (hk : e'.key = e.key) : updI (E.map kv) k (kv e').2 = (E.set i e').map kv := by
  unfold updI
  unfold fi at hi
  cases hf : findI k (E.map kv) 0 with
  | none => rw [hf] at hi; cases hi
  | some p =>
    rw [hf] at hi
    obtain rfl : p.1 = i := Option.some.inj hi
    simp only []
    apply List.ext_getElem?
    intro j
    simp only [List.getElem?_map, List.getElem?_modify, List.getElem?_set]
    by_cases hj : p.1 = j
    · subst hj
      obtain ⟨hlt, hge⟩ := List.getElem?_eq_some_iff.1 he
      simp [hlt, hge, hk]
    · simp [hj]
theorem updI_app {E : List WEnt} {k : Int} {e' : WEnt} (hi : fi E k = none) (hk : e'.key = k) : updI (E.map kv) k (kv e').2 = (E ++ [e']).map kv := by
  unfold updI
  unfold fi at hi
  cases hf : findI k (E.map kv) 0 with
  | none => simp [hk]
  | some p => rw [hf] at hi; cases hi
theorem updI_set' {E : List WEnt} {k : Int} {i n : Nat} {e e' : WEnt} (hi : fi E k = some i) (he : E[i]? = some e) (hk : e'.key = e.key) (hn : n = e'.ss.length) : updI (E.map kv) k (.slice e'.a n e'.cap) = (E.set i e').map kv := by
  subst hn; exact updI_set hi he hk
theorem updI_app' {E : List WEnt} {k : Int} {n : Nat} {e' : WEnt} (hi : fi E k = none) (hk : e'.key = k) (hn : n = e'.ss.length) : updI (E.map kv) k (.slice e'.a n e'.cap) = (E ++ [e']).map kv := by
  subst hn; exact updI_app hi hk
theorem wrow_app (key : Int) (a : Option Addr) (c : Nat) (ss : List Syn) (x : Syn) : wrow ⟨key, a, c, ss ++ [x]⟩ = row a c 109 4 (ss.length + 1) (ss.flatMap eSyn ++ eSyn x) := by
  simp [wrow]
theorem wrow_one (key : Int) (a : Option Addr) (c : Nat) (x : Syn) : wrow ⟨key, a, c, [x]⟩ = row a c 109 4 (0 + 1) ([] ++ eSyn x) := by
  simp [wrow]
theorem pull_get {α : Type} {f : α → Atom} : ∀ {E : List α} {i : Nat} {e : α}, E[i]? = some e → Pull (E.map f) (f e) ((E.eraseIdx i).map f)
  | [], i, e, h => by simp at h
  | x :: E, 0, e, h => by obtain rfl : x = e := by simpa using h
                          exact .here
  | x :: E, i + 1, e, h => .there (pull_get (by simpa using h))
theorem pull_set {α : Type} {f : α → Atom} : ∀ {E : List α} {i : Nat} {e e' : α}, E[i]? = some e → Pull ((E.set i e').map f) (f e') ((E.eraseIdx i).map f)
  | [], i, e, _, h => by simp at h
  | x :: E, 0, e, _, h => .here
  | x :: E, i + 1, e, _, h => .there (pull_set (by simpa using h))
theorem pull_last {α : Type} {f : α → Atom} {e : α} : ∀ {E : List α}, Pull ((E ++ [e]).map f) (f e) (E.map f)
  | [] => .here
  | _ :: _ => .there pull_last
theorem look_fi {E : List WEnt} {k : Int} {i : Nat} {e : WEnt} (hi : fi E k = some i) (he : E[i]? = some e) : looki (E.map kv) k = some (.slice e.a e.ss.length e.cap) := by
  unfold fi at hi
  cases hf : findI k (E.map kv) 0 with
  | none => rw [hf] at hi; cases hi
  | some p =>
    rw [hf] at hi
    obtain rfl : p.1 = i := Option.some.inj hi
    obtain ⟨e2, h1, h2, h3⟩ := fi_get (i := p.1) (v := p.2) hf
    rw [he] at h1; obtain rfl := Option.some.inj h1
    simp [looki, hf, h3]
theorem look_none {E : List WEnt} {k : Int} (hi : fi E k = none) : looki (E.map kv) k = none := by
  unfold fi at hi
  unfold looki
  cases hf : findI k (E.map kv) 0 with
  | none => rfl
  | some p => rw [hf] at hi; cases hi
def wφ (M : Nat) (E : List WEnt) (w : World) : Prop := (∃ l c, w.heap[M]? = some (.map l c) ∧ ents l.toList (E.map kv)) ∧ ∀ e ∈ E, RoL w e.a eSyn e.ss
theorem rows_ro {w : World} : ∀ {E : List WEnt} {S : Nat → Prop}, Sats w (E.map wrow) S → ∀ e ∈ E, RoL w e.a eSyn e.ss
  | [], _, _, _, h => by cases h
  | x :: E, S, ⟨S1, S2, h1, h2, _, _⟩, e, he => by
    rcases List.mem_cons.1 he with rfl | he
    · exact ro_of_own h1.1
    · exact rows_ro h2 e he
theorem wfreeze {w0 w : World} {M : Nat} {E : List WEnt} (h : Sat w0 w (imap M (E.map kv) :: E.map wrow)) : Sat w0 w [rd (wφ M E)] := by
  have h1 : Sat w0 w (bun (imap M (E.map kv) :: E.map wrow) :: []) := Sat.bundle (by simpa using h)
  exact h1.freeze (fun w S hS => by
    obtain ⟨S1, S2, ⟨⟨l, c, a1, a2⟩, _⟩, a3, _, _⟩ := hS
    exact ⟨⟨l, c, a1, a2⟩, rows_ro a3⟩)
theorem wl_get {E : List WEnt} {l : List Syn} (h : WI E l) (k : Int) : ∃ a c, (looki (E.map kv) k = some (.slice a (filt l k).length c) ∨ looki (E.map kv) k = none ∧ (.slice a (filt l k).length c : Value) = .slice none 0 0) ∧
    ∀ M w, wφ M E w → RoL w a eSyn (filt l k) := by
  cases hf : fi E k with
  | some i =>
    obtain ⟨e, h1, h2, h3⟩ := h.has k i hf
    refine ⟨e.a, e.cap, .inl ?_, fun M w hw => ?_⟩
    · rw [look_fi hf h1, h3]
    · rw [← h3]; exact hw.2 e (List.mem_iff_getElem?.2 ⟨i, h1⟩)
  | none =>
    have hn := h.non k hf
    refine ⟨none, 0, .inr ⟨look_none hf, by rw [hn]; rfl⟩, fun M w _ => ?_⟩
    rw [hn]; exact Ro.nil w none
theorem wired_c (na : Option Addr) (nc : Nat) (sa : Option Addr) (sc : Nat) (ns : List Prm) (ip : Int) (ss : List Syn) (w : World) (hS : RoL w sa eSyn ss) (hm : ss.length ≤ 8192) : Calls Tryz.prog 98 [.agg [.slice na ns.length nc, .int .i64 ip, .slice sa ss.length sc].toArray].toArray w fun e w' => ∃ M E, e = .returned (.map (some M)) ∧ WI E ss ∧ Sat w w' [rd (wφ M E)] := by
  refine fstart Tryz.func98 rfl rfl (Sat.nil w) ?_
  refine Cd.seq ?_
  refine Cd.region ?_
  refine Ops.box [.slice na ns.length nc, .int .i64 ip, .slice sa ss.length sc] rfl rfl ?_
  intro b1
  refine Ops.q (q_asg rfl) ?_
  refine Ops.to rfl ?_
  refine Cd.seq ?_
  refine Cd.region ?_
  refine Ops.mkm ?_
  intro b2
  refine Ops.q (q_asg rfl) ?_
  refine Ops.to rfl ?_
  refine Cd.seq ?_
  refine Cd.seq ?_
  refine Cd.region ?_
  refine Ops.q (q_fa fo_40_2 rfl) ?_
  refine Ops.q (q_ldB isA_38 rfl (.there .here) rfl) ?_
  refine Ops.q (q_len esz_38 rfl) ?_
  refine Ops.q (q_mv rfl) ?_
  refine Ops.to rfl ?_
  refine Cd.block ?_
  refine Cd.lp (σ := Nat × List WEnt) (fun s => s.1 ≤ ss.length ∧ WI s.2 (ss.take s.1)) (fun s => [(3, .map (some b2)), (8, .slice sa ss.length sc), (9, .int .i64 (ss.length : Int)), (10, .int .i64 (s.1 : Int))]) (fun s => imap b2 (s.2.map kv) :: s.2.map wrow) (fun s => ss.length - s.1) (0, []) ⟨Nat.zero_le _, WI.nil⟩ ⟨rfl, rfl, rfl, rfl, trivial⟩ (fun _ hs => (hs.pull .here).only .here) ?_
  intro s hI
  have hI1 := hI.1
  refine Cd.seq ?_
  refine Cd.region ?_
  by_cases h3 : (s.1 : Int) < (ss.length : Int)
  · refine Ops.q (q_cmp rfl rfl (c_lt h3)) ?_
    obtain ⟨x4, hx5⟩ : ∃ x, ss[s.1]? = some x := ⟨_, List.getElem?_eq_getElem (by omega)⟩
    obtain ⟨ab6, ao7, rfl⟩ := RoL.pos hS eSyn_len hx5
    refine Ops.to rfl ?_
    refine Cd.seq ?_
    refine Cd.cond_t rfl ?_
    refine Cd.skipTo rfl ?_
    refine Cd.seq ?_
    refine Cd.block ?_
    refine Cd.seq ?_
    refine Cd.region ?_
    refine Ops.q (q_ix (k := s.1) esz_38 rfl rfl (by omega)) ?_
    refine Ops.q (q_ldRN [.int .i64 x4.src, .int .i64 x4.dst, .int .i64 x4.wt, .int .i64 x4.dl] isA_109 sz_109 rfl (fun j u hu => hS.at eSyn_len hx5 hu)) ?_
    refine Ops.alc [.int .i64 0, .int .i64 0, .int .i64 0, .int .i64 0] zc_109 ?_
    intro b8
    refine Ops.stB [.int .i64 x4.src, .int .i64 x4.dst, .int .i64 x4.wt, .int .i64 x4.dl] [.int .i64 x4.src, .int .i64 x4.dst, .int .i64 x4.wt, .int .i64 x4.dl] sz_109 rfl rfl rfl (one rfl) .here rfl rfl ?_
    refine Ops.to rfl ?_
    cases hf : fi s.2 x4.src with
    | some i =>
      obtain ⟨e, he, hek, hes⟩ := hI.2.has _ _ hf
      have hel : e.ss.length ≤ ss.length := by rw [hes]; exact Nat.le_trans (List.length_filter_le _ _) (by rw [List.length_take]; omega)
      refine Cd.pull (Pull.right (X := s.2.map wrow) (pull_get he) [blk b8 109 [.int .i64 x4.src, .int .i64 x4.dst, .int .i64 x4.wt, .int .i64 x4.dl], imap b2 (s.2.map kv)]) ?_
      refine Cd.draw rfl (by kernel_rfl) (.cons (.there .here) (.cons (.there .here) .nil)) ?_
      intro F9 St10 hP11 hF12 hR13
      refine Dr.q (i := 0) hP11 rfl (by kernel_rfl) (q_mv rfl) ?_
      refine Dr.q (i := 1) hP11 rfl (by kernel_rfl) (q_fa fo_109_0 rfl) ?_
      refine Dr.q (i := 2) hP11 rfl (by kernel_rfl) (q_ldB isA_3 rfl .here rfl) ?_
      refine Dr.q (i := 3) hP11 rfl (by kernel_rfl) (q_mv rfl) ?_
      refine Dr.q (i := 4) hP11 rfl (by kernel_rfl) (q_fa fo_109_0 rfl) ?_
      refine Dr.q (i := 5) hP11 rfl (by kernel_rfl) (q_ldB isA_3 rfl .here rfl) ?_
      refine Dr.q (i := 6) hP11 rfl (by kernel_rfl) (q_look mpT_125 iK_3 rfl rfl (.there .here) (.inl (look_fi hf he))) ?_
      refine Dr.q (i := 7) hP11 rfl (by kernel_rfl) (q_ldBN [.int .i64 x4.src, .int .i64 x4.dst, .int .i64 x4.wt, .int .i64 x4.dl] isA_109 sz_109 rfl .here rfl) ?_
      refine Dr.e (i := 8) rfl (by kernel_rfl) ?_
      refine Ops.lit [.int .i64 x4.src, .int .i64 x4.dst, .int .i64 x4.wt, .int .i64 x4.dl] el_38 zsb_109 rfl rfl ⟨by decide, by decide⟩ rfl ?_
      intro b14
      refine Dr.back (fun _ hs => hF12 (.there .here) hs) ?_
      refine Dr.e (i := 9) rfl (by kernel_rfl) ?_
      refine Ops.app (news := [.int .i64 x4.src, .int .i64 x4.dst, .int .i64 x4.wt, .int .i64 x4.dl]) el_38 zsb_109 (by decide) rfl rfl (fun _ hs => hs.ownRo .here) (fun _ hs => (hs.pull .here).drop) (fun _ _ => (.there .here)) rfl (one rfl) (by omega) (by omega) ?_
      intro a15 c16
      refine Dr.back (fun _ hs => hF12 .here hs) ?_
      refine Dr.tail 10 (by kernel_rfl) ?_
      refine Ops.sat ?_ (fun _ hs => hR13 .here hs)
      refine Ops.mpu mpT_125 iK_3 rfl rfl rfl (.there .here) ?_
      refine Ops.to rfl ?_
      refine Cd.region ?_
      refine Ops.q (q_ar rfl rfl (a_inc (by omega))) ?_
      refine Ops.q (q_mv rfl) ?_
      refine Ops.rnd ((s.1 + 1, s.2.set i ⟨e.key, a15, c16, e.ss ++ [x4]⟩)) rfl (⟨by omega, by rw [List.take_add_one, hx5]; exact hI.2.set hf he hek hes⟩) (by simp; omega) ⟨rfl, rfl, rfl, rfl, trivial⟩ (fun _ hs => by have h1 := ((hs.pull .here).drop.pull (.there .here)); have h2 := updI_set' (n := e.ss.length + 1) (e' := ⟨e.key, a15, c16, e.ss ++ [x4]⟩) hf he rfl (by simp); rw [h2] at h1; have h3 := wrow_app e.key a15 c16 e.ss x4; exact Sat.push (a := wrow ⟨e.key, a15, c16, e.ss ++ [x4]⟩) (by rw [h3]; exact h1) (.there (pull_set he))) 
    | none =>
      refine Cd.draw rfl (by kernel_rfl) (.cons .here (.cons .here .nil)) ?_
      intro F17 St18 hP19 hF20 hR21
      refine Dr.q (i := 0) hP19 rfl (by kernel_rfl) (q_mv rfl) ?_
      refine Dr.q (i := 1) hP19 rfl (by kernel_rfl) (q_fa fo_109_0 rfl) ?_
      refine Dr.q (i := 2) hP19 rfl (by kernel_rfl) (q_ldB isA_3 rfl .here rfl) ?_
      refine Dr.q (i := 3) hP19 rfl (by kernel_rfl) (q_mv rfl) ?_
      refine Dr.q (i := 4) hP19 rfl (by kernel_rfl) (q_fa fo_109_0 rfl) ?_
      refine Dr.q (i := 5) hP19 rfl (by kernel_rfl) (q_ldB isA_3 rfl .here rfl) ?_
      refine Dr.q (i := 6) hP19 rfl (by kernel_rfl) (q_look mpT_125 iK_3 rfl rfl (.there .here) (.inr ⟨look_none hf, run_zv zv_38⟩)) ?_
      refine Dr.q (i := 7) hP19 rfl (by kernel_rfl) (q_ldBN [.int .i64 x4.src, .int .i64 x4.dst, .int .i64 x4.wt, .int .i64 x4.dl] isA_109 sz_109 rfl .here rfl) ?_
      refine Dr.e (i := 8) rfl (by kernel_rfl) ?_
      refine Ops.lit [.int .i64 x4.src, .int .i64 x4.dst, .int .i64 x4.wt, .int .i64 x4.dl] el_38 zsb_109 rfl rfl ⟨by decide, by decide⟩ rfl ?_
      intro b22
      refine Dr.back (fun _ hs => hF20 (.there .here) hs) ?_
      refine Dr.e (i := 9) rfl (by kernel_rfl) ?_
      refine Ops.nilRow 109 4 ?_
      refine Ops.app (news := [.int .i64 x4.src, .int .i64 x4.dst, .int .i64 x4.wt, .int .i64 x4.dl]) el_38 zsb_109 (by decide) rfl rfl (fun _ hs => hs.ownRo (.there .here)) (fun _ hs => (hs.pull (.there .here)).drop) (fun _ _ => .here) rfl (one rfl) (by omega) (by omega) ?_
      intro a23 c24
      refine Dr.back (fun _ hs => hF20 (.there .here) hs) ?_
      refine Dr.tail 10 (by kernel_rfl) ?_
      refine Ops.sat ?_ (fun _ hs => hR21 (.there .here) hs)
      refine Ops.mpu mpT_125 iK_3 rfl rfl rfl (.there .here) ?_
      refine Ops.to rfl ?_
      refine Cd.region ?_
      refine Ops.q (q_ar rfl rfl (a_inc (by omega))) ?_
      refine Ops.q (q_mv rfl) ?_
      refine Ops.rnd ((s.1 + 1, s.2 ++ [⟨x4.src, a23, c24, [x4]⟩])) rfl (⟨by omega, by rw [List.take_add_one, hx5]; exact hI.2.app hf⟩) (by simp; omega) ⟨rfl, rfl, rfl, rfl, trivial⟩ (fun _ hs => by have h1 := ((hs.pull .here).drop.pull (.there .here)); have h2 := updI_app' (n := 0 + 1) (e' := ⟨x4.src, a23, c24, [x4]⟩) hf rfl (by simp); rw [h2] at h1; have h3 := wrow_one x4.src a23 c24 x4; exact Sat.push (a := wrow ⟨x4.src, a23, c24, [x4]⟩) (by rw [h3]; exact h1) (.there pull_last)) 
  · refine Ops.q (q_cmp rfl rfl (c_nlt (by omega))) ?_
    refine Ops.to rfl ?_
    refine Cd.seq ?_
    refine Cd.cond_f rfl ?_
    refine Cd.exitTo rfl ?_
    refine Cd.seq ?_
    refine Cd.region ?_
    refine Ops.q (q_mv rfl) ?_
    refine Ops.q (q_asg rfl) ?_
    refine Ops.to rfl ?_
    refine Cd.rt (fn := Tryz.f98) [.map (some b2)] (by with_reducible repeat (first | exact rq_here | apply rq_then | apply rq_block)) rfl ⟨rfl, trivial⟩ ?_
    intro w' hs
    exact ⟨_, _, rfl, by have := hI.2; rwa [List.take_of_length_le (by omega)] at this, wfreeze hs⟩
end Go.Proofs.YtilcdghliigngaaGreatDoor
namespace Go.Proofs.YtilcdghliigngaaGreatDoor
open Go.RowKit Go.Proofs.YtilcdghliigngaaGreatDoorGl Go.Proofs.YtilcdghliigngaaGreatDoorPm
set_option linter.unusedVariables false
set_option linter.unusedSimpArgs false
abbrev rcell (n : Nat) (q : Nat × List Int) : Value := .slice (some ⟨q.1, 0, none⟩) n n
abbrev rrow (n : Nat) (q : Nat × List Int) : Atom := row (some ⟨q.1, 0, none⟩) n 3 1 n (q.2.flatMap eInt)
theorem rep_st (n : Nat) : rep n [Value.int .i64 0, .int .i64 0] = (List.replicate n (⟨0, 0⟩ : Stt)).flatMap eStt := by
  induction n with
  | zero => rfl
  | succ n ih => rw [show rep (n + 1) [Value.int .i64 0, .int .i64 0] = [Value.int .i64 0, .int .i64 0] ++ rep n [Value.int .i64 0, .int .i64 0] by simp [rep, List.replicate_succ], ih, List.replicate_succ, List.flatMap_cons]; rfl
theorem rep_int (n : Nat) : rep n [Value.int .i64 0] = (List.replicate n (0 : Int)).flatMap eInt := by
  induction n with
  | zero => rfl
  | succ n ih => rw [show rep (n + 1) [Value.int .i64 0] = [Value.int .i64 0] ++ rep n [Value.int .i64 0] by simp [rep, List.replicate_succ], ih, List.replicate_succ, List.flatMap_cons]; rfl
abbrev simA (S : Nat) (na : Option Addr) (nc : Nat) (sa : Option Addr) (sc : Nat) (ns : List Prm) (ip : Int) (m : Nat) (M : Nat) (E : List WEnt) (now : Nat) (B : Nat) (sts : List Stt) (q : List (Nat × List Int)) (F : List Atom) : List Atom :=
  blk S 130 ([.slice na ns.length nc, .int .i64 ip, .slice sa m sc, .map (some M), .int .i64 (now : Int), .slice (some ⟨B, 0, none⟩) ns.length ns.length] ++ q.map (rcell ns.length)) ::
  row (some ⟨B, 0, none⟩) ns.length 133 2 ns.length (sts.flatMap eStt) :: row na nc 62 8 ns.length (ns.flatMap ePrm) :: rd (wφ M E) :: (F ++ q.map (rrow ns.length))
theorem clone_c (b o nc : Nat) (ns : List Prm) (w : World) (hN : RoL w (some ⟨b, o, none⟩) ePrm ns) (hn : ns.length ≤ 1024) : Calls Tryz.prog 97 [.slice (some ⟨b, o, none⟩) ns.length nc].toArray w fun e w' => ∃ p : Option Addr × Nat, e = .returned (.slice p.1 ns.length p.2) ∧ Sat w w' [row p.1 p.2 62 8 ns.length (ns.flatMap ePrm)] := by
  refine fstart Tryz.func97 rfl rfl (Sat.nil w) ?_
  refine Cd.seq ?_
  refine Cd.region ?_
  refine Ops.q (q_asg rfl) ?_
  refine Ops.to rfl ?_
  refine Cd.seq ?_
  refine Cd.seq ?_
  refine Cd.region ?_
  refine Ops.q (q_mv rfl) ?_
  refine Ops.q (q_nilS el_37 rfl rfl) ?_
  refine Ops.to rfl ?_
  refine Cd.cond_f rfl ?_
  refine Cd.skipTo rfl ?_
  refine Cd.seq ?_
  refine Cd.region ?_
  refine Ops.lit [] el_37 zsb_62 rfl rfl ⟨by decide, by decide⟩ rfl ?_
  intro b1
  refine Ops.q (q_mv rfl) ?_
  refine Ops.app (news := (ns.flatMap ePrm)) el_37 zsb_62 (by decide) rfl rfl (fun _ hs => hN.later hs.below) (fun _ hs => hs) (fun _ _ => .here) (fm_length ePrm_len ns) (fm_one ePrm_one ns) (by omega) (by omega) ?_
  intro a2 c3
  refine Ops.q (q_asg rfl) ?_
  refine Ops.to rfl ?_
  refine Cd.rt (fn := Tryz.f97) [.slice a2 (0 + ns.length) c3] (by with_reducible repeat (first | exact rq_here | apply rq_then | apply rq_block)) rfl ⟨rfl, trivial⟩ ?_
  intro w' hs'
  exact ⟨(a2, c3), by simp [joinV], by simpa using hs'.only .here⟩
theorem set_nil {α : Type} {pre xs : List α} {v z : α} {n o : Nat} (hn : n = xs.length) (hk : n + 1 ≤ 16) (ho : o = pre.length + n * 1) : (pre ++ (xs ++ List.replicate (16 - n) z)).take o ++ [v] ++ (pre ++ (xs ++ List.replicate (16 - n) z)).drop (o + 1) = pre ++ (xs ++ (v :: List.replicate (15 - n) z)) := by
  subst hn
  obtain ⟨j, hj⟩ : ∃ j, 16 - xs.length = j + 1 := ⟨16 - xs.length - 1, by omega⟩
  have hj2 : 15 - xs.length = j := by omega
  rw [hj, hj2, List.replicate_succ]
  subst ho
  have e : (pre ++ (xs ++ z :: List.replicate j z)) = (pre ++ xs) ++ z :: List.replicate j z := by simp
  have l : pre.length + xs.length * 1 = (pre ++ xs).length := by simp
  rw [e, l, List.take_left, List.drop_append]
  simp
theorem ring_add {n : Nat} {w0 w : World} {t S b : Nat} {tcs pre : List Value} {B N R : Atom} {q : List (Nat × List Int)} {T : TypeId} (h : Sat w0 w (blk t T tcs :: blk S 130 (pre ++ (q.map (rcell n) ++ (.slice (some ⟨b, 0, none⟩) n n :: List.replicate (15 - q.length) (.slice none 0 0)))) :: B :: N :: R :: row (some ⟨b, 0, none⟩) n 3 1 n ((List.replicate n (0 : Int)).flatMap eInt) :: q.map (rrow n))) (hq : q.length < 16) :
    Sat w0 w (blk t T tcs :: blk S 130 (pre ++ ((q ++ [(b, List.replicate n 0)]).map (rcell n) ++ List.replicate (16 - (q ++ [(b, List.replicate n (0 : Int))]).length) (.slice none 0 0))) :: B :: N :: R :: (q ++ [(b, List.replicate n 0)]).map (rrow n)) := by
  have e : (q ++ [(b, List.replicate n (0 : Int))]).map (rcell n) ++ List.replicate (16 - (q ++ [(b, List.replicate n (0 : Int))]).length) (.slice none 0 0 : Value) = q.map (rcell n) ++ (.slice (some ⟨b, 0, none⟩) n n :: List.replicate (15 - q.length) (.slice none 0 0)) := by
    rw [List.map_append, List.length_append, List.append_assoc]
    simp only [List.map_cons, List.map_nil, List.length_cons, List.length_nil]
    rw [show 16 - (q.length + (0 + 1)) = 15 - q.length by omega]
    rfl
  rw [e]
  have h1 := h.pull .p5
  exact Sat.push h1 (.there (.there (.there (.there (.there pull_last)))))
theorem start_c (b o nc : Nat) (sa : Option Addr) (sc : Nat) (ns : List Prm) (ip : Int) (ss : List Syn) (w : World) (hN : RoL w (some ⟨b, o, none⟩) ePrm ns) (hS : RoL w sa eSyn ss) (hn : ns.length ≤ 1024) (hm : ss.length ≤ 8192) :
    Calls Tryz.prog 63 [.agg [.slice (some ⟨b, o, none⟩) ns.length nc, .int .i64 ip, .slice sa ss.length sc].toArray].toArray w fun e w' => ∃ S na nc' M E B q, e = .returned (.pointer (some ⟨S, 0, none⟩)) ∧ WI E ss ∧ q.length = 16 ∧ (∀ x ∈ q, x.2 = List.replicate ns.length 0) ∧ Sat w w' (simA S na nc' sa sc ns ip ss.length M E 0 B (List.replicate ns.length ⟨0, 0⟩) q []) := by
  refine fstart Tryz.func63 rfl rfl (Sat.nil w) ?_
  refine Cd.seq ?_
  refine Cd.region ?_
  refine Ops.box [.slice (some ⟨b, o, none⟩) ns.length nc, .int .i64 ip, .slice sa ss.length sc] rfl rfl ?_
  intro b1
  refine Ops.q (q_asg rfl) ?_
  refine Ops.to rfl ?_
  refine Cd.seq ?_
  refine Cd.region ?_
  refine Ops.q (q_fa fo_40_0 rfl) ?_
  refine Ops.q (q_ldB isA_37 rfl .here rfl) ?_
  refine Ops.cl en_97 rfl (fun w hs => clone_c _ _ _ ns w (hN.later hs.below) hn) ?_
  intro p2
  refine Ops.q (q_fa fo_40_0 rfl) ?_
  refine Ops.stB [.slice p2.1 ns.length p2.2] [.slice p2.1 ns.length p2.2, .int .i64 ip, .slice sa ss.length sc] sz_37 rfl rfl rfl (one rfl) (.there .here) rfl rfl ?_
  refine Ops.to rfl ?_
  refine Cd.seq ?_
  refine Cd.draw rfl (by kernel_rfl) (.cons (.there .here) .nil) ?_
  intro F3 St4 hP5 hF6 hR7
  refine Dr.q (i := 0) hP5 rfl (by kernel_rfl) (q_ldBN [.slice p2.1 ns.length p2.2, .int .i64 ip, .slice sa ss.length sc] isA_40 sz_40 rfl .here rfl) ?_
  refine Dr.q (i := 1) hP5 rfl (by kernel_rfl) (q_ldBN [.slice p2.1 ns.length p2.2, .int .i64 ip, .slice sa ss.length sc] isA_40 sz_40 rfl .here rfl) ?_
  refine Dr.q (i := 3) hP5 rfl (by kernel_rfl) (q_fa fo_40_0 rfl) ?_
  refine Dr.q (i := 4) hP5 rfl (by kernel_rfl) (q_ldB isA_37 rfl .here rfl) ?_
  refine Dr.q (i := 5) hP5 rfl (by kernel_rfl) (q_len esz_37 rfl) ?_
  refine Dr.e2 (i := 2) (j := 6) rfl rfl (by kernel_rfl) ?_ ?_
  · refine Ops.cl (α := {x : Nat × List WEnt // WI x.2 ss}) (v := fun x => .map (some x.1.1)) (B := fun x => [rd (wφ x.1.1 x.1.2)]) en_98 rfl (fun w hs => (wired_c _ _ _ _ ns ip ss w (hS.later hs.below) hm).mono fun e w' h => by obtain ⟨M, E, h1, h2, h3⟩ := h; exact ⟨⟨(M, E), h2⟩, h1, h3⟩) ?_
    rintro ⟨⟨M, E⟩, hW⟩
    refine Dr.back (fun _ hs => hF6 (.there .here) hs) ?_
    refine Dr.e (i := 6) rfl (by kernel_rfl) ?_
    refine Ops.mks (m := ns.length) el_126 zsb_133 rfl rfl (by omega) (by omega) ?_
    intro b8
    refine Dr.back (fun _ hs => hF6 .p2 hs) ?_
    refine Dr.q (i := 7) hP5 rfl (by kernel_rfl) (q_bld [.slice p2.1 ns.length p2.2, .int .i64 ip, .slice sa ss.length sc, .map (some M), .int .i64 0, .slice (some ⟨b8, 0, none⟩) ns.length ns.length, .slice none 0 0, .slice none 0 0, .slice none 0 0, .slice none 0 0, .slice none 0 0, .slice none 0 0, .slice none 0 0, .slice none 0 0, .slice none 0 0, .slice none 0 0, .slice none 0 0, .slice none 0 0, .slice none 0 0, .slice none 0 0, .slice none 0 0, .slice none 0 0] pls_130 zc_130 rfl rfl) ?_
    refine Dr.e (i := 8) rfl (by kernel_rfl) ?_
    refine Ops.box [.slice p2.1 ns.length p2.2, .int .i64 ip, .slice sa ss.length sc, .map (some M), .int .i64 0, .slice (some ⟨b8, 0, none⟩) ns.length ns.length, .slice none 0 0, .slice none 0 0, .slice none 0 0, .slice none 0 0, .slice none 0 0, .slice none 0 0, .slice none 0 0, .slice none 0 0, .slice none 0 0, .slice none 0 0, .slice none 0 0, .slice none 0 0, .slice none 0 0, .slice none 0 0, .slice none 0 0, .slice none 0 0] rfl rfl ?_
    intro b9
    refine Dr.back (fun _ hs => hF6 .p3 hs) ?_
    refine Dr.tail 9 (by kernel_rfl) ?_
    refine Ops.sat ?_ (fun _ hs => hR7 .p3 hs)
    refine Ops.q (q_asg rfl) ?_
    refine Ops.to rfl ?_
    refine Cd.seq ?_
    refine Cd.seq ?_
    refine Cd.region ?_
    refine Ops.q (q_mv rfl) ?_
    refine Ops.to rfl ?_
    refine Cd.block ?_
    refine Cd.lp (σ := List (Nat × List Int)) (fun q => q.length ≤ 16 ∧ ∀ x ∈ q, x.2 = List.replicate ns.length 0) (fun q => [(1, .pointer (some ⟨b1, 0, none⟩)), (3, .pointer (some ⟨b9, 0, none⟩)), (18, .int .i64 (q.length : Int))]) (fun q => blk b1 40 [.slice p2.1 ns.length p2.2, .int .i64 ip, .slice sa ss.length sc] :: blk b9 130 ([.slice p2.1 ns.length p2.2, .int .i64 ip, .slice sa ss.length sc, .map (some M), .int .i64 0, .slice (some ⟨b8, 0, none⟩) ns.length ns.length] ++ (q.map (rcell ns.length) ++ List.replicate (16 - q.length) (.slice none 0 0))) :: row (some ⟨b8, 0, none⟩) ns.length 133 2 ns.length ((List.replicate ns.length (⟨0, 0⟩ : Stt)).flatMap eStt) :: row p2.1 p2.2 62 8 ns.length (ns.flatMap ePrm) :: rd (wφ M E) :: q.map (rrow ns.length)) (fun q => 16 - q.length) [] ⟨Nat.zero_le _, fun _ h => by cases h⟩ ⟨rfl, rfl, rfl, trivial⟩ (fun _ hs => by have h1 := (((((hs.pull .p3).pull .p4).pull .p4).pull .p4).pull .p4); rw [rep_st] at h1; exact h1) ?_
    intro q hI
    have hI1 := hI.1
    refine Cd.seq ?_
    refine Cd.region ?_
    by_cases h10 : (q.length : Int) < 16
    · refine Ops.q (q_cmp rfl rfl (c_lt h10)) ?_
      refine Ops.to rfl ?_
      refine Cd.seq ?_
      refine Cd.cond_t rfl ?_
      refine Cd.skipTo rfl ?_
      refine Cd.seq ?_
      refine Cd.block ?_
      refine Cd.seq ?_
      refine Cd.region ?_
      refine Ops.q (q_mv rfl) ?_
      refine Ops.q (q_asg rfl) ?_
      refine Ops.to rfl ?_
      refine Cd.draw rfl (by kernel_rfl) (.cons .here .nil) ?_
      intro F11 St12 hP13 hF14 hR15
      refine Dr.q (i := 0) hP13 rfl (by kernel_rfl) (q_mv rfl) ?_
      refine Dr.q (i := 1) hP13 rfl (by kernel_rfl) (q_mv rfl) ?_
      refine Dr.q (i := 2) hP13 rfl (by kernel_rfl) (q_fa fo_40_0 rfl) ?_
      refine Dr.q (i := 3) hP13 rfl (by kernel_rfl) (q_ldB isA_37 rfl .here rfl) ?_
      refine Dr.q (i := 4) hP13 rfl (by kernel_rfl) (q_len esz_37 rfl) ?_
      refine Dr.q (i := 6) hP13 rfl (by kernel_rfl) (q_nck rfl) ?_
      refine Dr.q (i := 7) hP13 rfl (by kernel_rfl) (q_fa fo_130_4 rfl) ?_
      refine Dr.e (i := 5) rfl (by kernel_rfl) ?_
      refine Ops.mks (m := ns.length) el_31 zsb_3 rfl rfl (by omega) (by omega) ?_
      intro b16
      refine Dr.back (fun _ hs => hF14 (.there .here) hs) ?_
      refine Dr.q (i := 8) hP13 rfl (by kernel_rfl) (q_ixA (k := q.length) asz_128 rfl rfl (by omega)) ?_
      refine Dr.e (i := 9) rfl (by kernel_rfl) ?_
      refine Ops.stB [.slice (some ⟨b16, 0, none⟩) ns.length ns.length] ([.slice p2.1 ns.length p2.2, .int .i64 ip, .slice sa ss.length sc, .map (some M), .int .i64 0, .slice (some ⟨b8, 0, none⟩) ns.length ns.length] ++ (q.map (rcell ns.length) ++ (.slice (some ⟨b16, 0, none⟩) ns.length ns.length :: List.replicate (15 - q.length) (.slice none 0 0)))) sz_31 rfl rfl rfl (one rfl) .p2 (ble_ok (by simp; omega)) (set_nil (α := Value) (n := q.length) (pre := [.slice p2.1 ns.length p2.2, .int .i64 ip, .slice sa ss.length sc, .map (some M), .int .i64 0, .slice (some ⟨b8, 0, none⟩) ns.length ns.length]) (by simp) (by omega) rfl) ?_
      refine Dr.back (fun _ hs => hF14 (.there .here) hs) ?_
      refine Dr.tail 10 (by kernel_rfl) ?_
      refine Ops.sat ?_ (fun _ hs => hR15 (.there .here) hs)
      refine Ops.to rfl ?_
      refine Cd.region ?_
      refine Ops.q (q_ar rfl rfl (a_inc (by omega))) ?_
      refine Ops.q (q_mv rfl) ?_
      refine Ops.rnd (q ++ [(b16, List.replicate ns.length 0)]) rfl (⟨by simp; omega, by intro x hx; rcases List.mem_append.1 hx with hx | hx; exact hI.2 x hx; obtain rfl := List.mem_singleton.1 hx; rfl⟩) (by simp; omega) ⟨rfl, rfl, (by rw [List.length_append]; rfl), trivial⟩ (fun _ hs => by have h1 := ((((((hs.pull (.there .here)).pull .p5).pull .p5).pull .p5).pull .p5).pull .p5); rw [rep_int] at h1; exact ring_add (n := ns.length) h1 (by omega)) 
    · refine Ops.q (q_cmp rfl rfl (c_nlt (by omega))) ?_
      refine Ops.to rfl ?_
      refine Cd.seq ?_
      refine Cd.cond_f rfl ?_
      refine Cd.exitTo rfl ?_
      refine Cd.seq ?_
      refine Cd.region ?_
      refine Ops.q (q_mv rfl) ?_
      refine Ops.q (q_asg rfl) ?_
      refine Ops.to rfl ?_
      refine Cd.rt (fn := Tryz.f63) [.pointer (some ⟨b9, 0, none⟩)] (by with_reducible repeat (first | exact rq_here | apply rq_then | apply rq_block)) rfl ⟨rfl, trivial⟩ ?_
      intro w' hs'
      have hq : q.length = 16 := by omega
      rw [hq] at hs'
      have h1 := hs'.drop
      rw [show q.map (rcell ns.length) ++ List.replicate (16 - 16) (.slice none 0 0) = q.map (rcell ns.length) from List.append_nil _] at h1
      exact ⟨_, _, _, _, _, _, q, rfl, hW, hq, hI.2, h1⟩
  · refine Ops.mks (m := ns.length) el_126 zsb_133 rfl rfl (by omega) (by omega) ?_
    intro b17
    refine Dr.back (fun _ hs => hF6 (.there .here) hs) ?_
    refine Dr.e (i := 2) rfl (by kernel_rfl) ?_
    refine Ops.cl (α := {x : Nat × List WEnt // WI x.2 ss}) (v := fun x => .map (some x.1.1)) (B := fun x => [rd (wφ x.1.1 x.1.2)]) en_98 rfl (fun w hs => (wired_c _ _ _ _ ns ip ss w (hS.later hs.below) hm).mono fun e w' h => by obtain ⟨M, E, h1, h2, h3⟩ := h; exact ⟨⟨(M, E), h2⟩, h1, h3⟩) ?_
    rintro ⟨⟨M, E⟩, hW⟩
    refine Dr.back (fun _ hs => hF6 .p2 hs) ?_
    refine Dr.q (i := 7) hP5 rfl (by kernel_rfl) (q_bld [.slice p2.1 ns.length p2.2, .int .i64 ip, .slice sa ss.length sc, .map (some M), .int .i64 0, .slice (some ⟨b17, 0, none⟩) ns.length ns.length, .slice none 0 0, .slice none 0 0, .slice none 0 0, .slice none 0 0, .slice none 0 0, .slice none 0 0, .slice none 0 0, .slice none 0 0, .slice none 0 0, .slice none 0 0, .slice none 0 0, .slice none 0 0, .slice none 0 0, .slice none 0 0, .slice none 0 0, .slice none 0 0] pls_130 zc_130 rfl rfl) ?_
    refine Dr.e (i := 8) rfl (by kernel_rfl) ?_
    refine Ops.box [.slice p2.1 ns.length p2.2, .int .i64 ip, .slice sa ss.length sc, .map (some M), .int .i64 0, .slice (some ⟨b17, 0, none⟩) ns.length ns.length, .slice none 0 0, .slice none 0 0, .slice none 0 0, .slice none 0 0, .slice none 0 0, .slice none 0 0, .slice none 0 0, .slice none 0 0, .slice none 0 0, .slice none 0 0, .slice none 0 0, .slice none 0 0, .slice none 0 0, .slice none 0 0, .slice none 0 0, .slice none 0 0] rfl rfl ?_
    intro b18
    refine Dr.back (fun _ hs => hF6 .p3 hs) ?_
    refine Dr.tail 9 (by kernel_rfl) ?_
    refine Ops.sat ?_ (fun _ hs => hR7 .p3 hs)
    refine Ops.q (q_asg rfl) ?_
    refine Ops.to rfl ?_
    refine Cd.seq ?_
    refine Cd.seq ?_
    refine Cd.region ?_
    refine Ops.q (q_mv rfl) ?_
    refine Ops.to rfl ?_
    refine Cd.block ?_
    refine Cd.lp (σ := List (Nat × List Int)) (fun q => q.length ≤ 16 ∧ ∀ x ∈ q, x.2 = List.replicate ns.length 0) (fun q => [(1, .pointer (some ⟨b1, 0, none⟩)), (3, .pointer (some ⟨b18, 0, none⟩)), (18, .int .i64 (q.length : Int))]) (fun q => blk b1 40 [.slice p2.1 ns.length p2.2, .int .i64 ip, .slice sa ss.length sc] :: blk b18 130 ([.slice p2.1 ns.length p2.2, .int .i64 ip, .slice sa ss.length sc, .map (some M), .int .i64 0, .slice (some ⟨b17, 0, none⟩) ns.length ns.length] ++ (q.map (rcell ns.length) ++ List.replicate (16 - q.length) (.slice none 0 0))) :: row (some ⟨b17, 0, none⟩) ns.length 133 2 ns.length ((List.replicate ns.length (⟨0, 0⟩ : Stt)).flatMap eStt) :: row p2.1 p2.2 62 8 ns.length (ns.flatMap ePrm) :: rd (wφ M E) :: q.map (rrow ns.length)) (fun q => 16 - q.length) [] ⟨Nat.zero_le _, fun _ h => by cases h⟩ ⟨rfl, rfl, rfl, trivial⟩ (fun _ hs => by have h1 := (((((hs.pull .p2).pull .p4).pull .p4).pull .p4).pull .p4); rw [rep_st] at h1; exact h1) ?_
    intro q hI
    have hI1 := hI.1
    refine Cd.seq ?_
    refine Cd.region ?_
    by_cases h19 : (q.length : Int) < 16
    · refine Ops.q (q_cmp rfl rfl (c_lt h19)) ?_
      refine Ops.to rfl ?_
      refine Cd.seq ?_
      refine Cd.cond_t rfl ?_
      refine Cd.skipTo rfl ?_
      refine Cd.seq ?_
      refine Cd.block ?_
      refine Cd.seq ?_
      refine Cd.region ?_
      refine Ops.q (q_mv rfl) ?_
      refine Ops.q (q_asg rfl) ?_
      refine Ops.to rfl ?_
      refine Cd.draw rfl (by kernel_rfl) (.cons .here .nil) ?_
      intro F20 St21 hP22 hF23 hR24
      refine Dr.q (i := 0) hP22 rfl (by kernel_rfl) (q_mv rfl) ?_
      refine Dr.q (i := 1) hP22 rfl (by kernel_rfl) (q_mv rfl) ?_
      refine Dr.q (i := 2) hP22 rfl (by kernel_rfl) (q_fa fo_40_0 rfl) ?_
      refine Dr.q (i := 3) hP22 rfl (by kernel_rfl) (q_ldB isA_37 rfl .here rfl) ?_
      refine Dr.q (i := 4) hP22 rfl (by kernel_rfl) (q_len esz_37 rfl) ?_
      refine Dr.q (i := 6) hP22 rfl (by kernel_rfl) (q_nck rfl) ?_
      refine Dr.q (i := 7) hP22 rfl (by kernel_rfl) (q_fa fo_130_4 rfl) ?_
      refine Dr.e (i := 5) rfl (by kernel_rfl) ?_
      refine Ops.mks (m := ns.length) el_31 zsb_3 rfl rfl (by omega) (by omega) ?_
      intro b25
      refine Dr.back (fun _ hs => hF23 (.there .here) hs) ?_
      refine Dr.q (i := 8) hP22 rfl (by kernel_rfl) (q_ixA (k := q.length) asz_128 rfl rfl (by omega)) ?_
      refine Dr.e (i := 9) rfl (by kernel_rfl) ?_
      refine Ops.stB [.slice (some ⟨b25, 0, none⟩) ns.length ns.length] ([.slice p2.1 ns.length p2.2, .int .i64 ip, .slice sa ss.length sc, .map (some M), .int .i64 0, .slice (some ⟨b17, 0, none⟩) ns.length ns.length] ++ (q.map (rcell ns.length) ++ (.slice (some ⟨b25, 0, none⟩) ns.length ns.length :: List.replicate (15 - q.length) (.slice none 0 0)))) sz_31 rfl rfl rfl (one rfl) .p2 (ble_ok (by simp; omega)) (set_nil (α := Value) (n := q.length) (pre := [.slice p2.1 ns.length p2.2, .int .i64 ip, .slice sa ss.length sc, .map (some M), .int .i64 0, .slice (some ⟨b17, 0, none⟩) ns.length ns.length]) (by simp) (by omega) rfl) ?_
      refine Dr.back (fun _ hs => hF23 (.there .here) hs) ?_
      refine Dr.tail 10 (by kernel_rfl) ?_
      refine Ops.sat ?_ (fun _ hs => hR24 (.there .here) hs)
      refine Ops.to rfl ?_
      refine Cd.region ?_
      refine Ops.q (q_ar rfl rfl (a_inc (by omega))) ?_
      refine Ops.q (q_mv rfl) ?_
      refine Ops.rnd (q ++ [(b25, List.replicate ns.length 0)]) rfl (⟨by simp; omega, by intro x hx; rcases List.mem_append.1 hx with hx | hx; exact hI.2 x hx; obtain rfl := List.mem_singleton.1 hx; rfl⟩) (by simp; omega) ⟨rfl, rfl, (by rw [List.length_append]; rfl), trivial⟩ (fun _ hs => by have h1 := ((((((hs.pull (.there .here)).pull .p5).pull .p5).pull .p5).pull .p5).pull .p5); rw [rep_int] at h1; exact ring_add (n := ns.length) h1 (by omega)) 
    · refine Ops.q (q_cmp rfl rfl (c_nlt (by omega))) ?_
      refine Ops.to rfl ?_
      refine Cd.seq ?_
      refine Cd.cond_f rfl ?_
      refine Cd.exitTo rfl ?_
      refine Cd.seq ?_
      refine Cd.region ?_
      refine Ops.q (q_mv rfl) ?_
      refine Ops.q (q_asg rfl) ?_
      refine Ops.to rfl ?_
      refine Cd.rt (fn := Tryz.f63) [.pointer (some ⟨b18, 0, none⟩)] (by with_reducible repeat (first | exact rq_here | apply rq_then | apply rq_block)) rfl ⟨rfl, trivial⟩ ?_
      intro w' hs'
      have hq : q.length = 16 := by omega
      rw [hq] at hs'
      have h1 := hs'.drop
      rw [show q.map (rcell ns.length) ++ List.replicate (16 - 16) (.slice none 0 0) = q.map (rcell ns.length) from List.append_nil _] at h1
      exact ⟨_, _, _, _, _, _, q, rfl, hW, hq, hI.2, h1⟩
end Go.Proofs.YtilcdghliigngaaGreatDoor
namespace Go.Proofs.YtilcdghliigngaaGreatDoor
open Go.RowKit Go.Proofs.YtilcdghliigngaaGreatDoorGl Go.Proofs.YtilcdghliigngaaGreatDoorPm
set_option linter.unusedVariables false
set_option linter.unusedSimpArgs false
theorem ring_get {pre : List Value} {f : Nat × List Int → Value} {q : List (Nat × List Int)} {j o : Nat} {x : Nat × List Int} (hx : q[j]? = some x) (ho : o = pre.length + j) : (pre ++ q.map f)[o]? = some (f x) := by
  subst ho
  rw [List.getElem?_append_right (by omega), Nat.add_sub_cancel_left, List.getElem?_map, hx]; rfl
theorem RoL_tail {w : World} {b o : Nat} {x : Evt} {xs : List Evt} {m c : Nat} (h : RoL w (some ⟨b, o, none⟩) eEvt (x :: xs)) (hc : (x :: xs).length ≤ c) : RoL w (if c = 1 then some ⟨b, o, none⟩ else (some ⟨b, o, none⟩ : Option Addr).map (·.add (1 * 2))) eEvt xs := by
  by_cases h1 : c = 1
  · have : xs = [] := List.eq_nil_of_length_eq_zero (by simp at hc; omega)
    subst this
    exact Ro.nil w _
  · rw [if_neg h1]
    intro j u hu
    have h2 := h (2 + j) u (by simp only [List.flatMap_cons]; rw [List.getElem?_append_right (by simp [eEvt])]; simpa [eEvt] using hu)
    obtain ⟨b', o', he, hc'⟩ := h2
    cases he
    exact ⟨b, o + 2, by simp [add_at], by rw [Nat.add_assoc]; exact hc'⟩
theorem row_c (S : Nat) (na : Option Addr) (nc : Nat) (sa : Option Addr) (sc : Nat) (ns : List Prm) (ip : Int) (m : Nat) (M : Nat) (now : Nat) (B : Nat) (q : List (Nat × List Int)) (G : List Atom) (d : Int) (j : Nat) (x : Nat × List Int) (w0 w : World) (hj : ((now : Int) + d) % 16 = (j : Int)) (hj2 : j < 16) (hx : q[j]? = some x) (hd : 0 ≤ d ∧ d ≤ 16) (hnow : now ≤ 10000) (hs : Sat w0 w (blk S 130 ([.slice na ns.length nc, .int .i64 ip, .slice sa m sc, .map (some M), .int .i64 (now : Int), .slice (some ⟨B, 0, none⟩) ns.length ns.length] ++ q.map (rcell ns.length)) :: G)) : Calls Tryz.prog 99 [.pointer (some ⟨S, 0, none⟩), .int .i64 d].toArray w fun e w' => e = .returned (rcell ns.length x) ∧ Sat w0 w' (blk S 130 ([.slice na ns.length nc, .int .i64 ip, .slice sa m sc, .map (some M), .int .i64 (now : Int), .slice (some ⟨B, 0, none⟩) ns.length ns.length] ++ q.map (rcell ns.length)) :: G) := by
  refine fstart Tryz.func99 rfl rfl hs ?_
  refine Cd.seq ?_
  refine Cd.region ?_
  refine Ops.q (q_asg rfl) ?_
  refine Ops.to rfl ?_
  refine Cd.seq ?_
  refine Cd.draw rfl (by kernel_rfl) (.cons .here .nil) ?_
  intro F1 St2 hP3 hF4 hR5
  refine Dr.q (i := 0) hP3 rfl (by kernel_rfl) (q_mv rfl) ?_
  refine Dr.q (i := 1) hP3 rfl (by kernel_rfl) (q_mv rfl) ?_
  refine Dr.q (i := 2) hP3 rfl (by kernel_rfl) (q_nck rfl) ?_
  refine Dr.q (i := 3) hP3 rfl (by kernel_rfl) (q_fa fo_130_2 rfl) ?_
  refine Dr.q (i := 4) hP3 rfl (by kernel_rfl) (q_ldB isA_3 rfl .here rfl) ?_
  refine Dr.q (i := 5) hP3 rfl (by kernel_rfl) (q_mv rfl) ?_
  refine Dr.q (i := 6) hP3 rfl (by kernel_rfl) (q_ar rfl rfl (a_add (by omega))) ?_
  refine Dr.q (i := 7) hP3 rfl (by kernel_rfl) (q_ar rfl rfl ((by rw [a_rem (by omega) (by omega), hj]))) ?_
  refine Dr.q (i := 8) hP3 rfl (by kernel_rfl) (q_nck rfl) ?_
  refine Dr.q (i := 9) hP3 rfl (by kernel_rfl) (q_fa fo_130_4 rfl) ?_
  refine Dr.q (i := 10) hP3 rfl (by kernel_rfl) (q_ixA (k := j) asz_128 rfl rfl (by omega)) ?_
  refine Dr.q (i := 11) hP3 rfl (by kernel_rfl) (q_ldB isA_31 rfl .here (ring_get hx (by simp))) ?_
  refine Dr.tail 12 (by kernel_rfl) ?_
  refine Ops.sat ?_ (fun _ hs => hR5 .here hs)
  refine Ops.q (q_asg rfl) ?_
  refine Ops.to rfl ?_
  refine Cd.rt (fn := Tryz.f99) [rcell ns.length x] (by with_reducible repeat (first | exact rq_here | apply rq_then | apply rq_block)) rfl ⟨rfl, trivial⟩ ?_
  intro w' hs'
  exact ⟨rfl, hs'⟩
theorem taker_c (Tb : Nat) (ea : Option Addr) (ec : Nat) (evs : List Evt) (t : Int) (w0 w : World) (F : List Atom) (hE : RoL w0 ea eEvt evs) (hec : evs.length ≤ ec) (hel : evs.length ≤ 65536) (hs : Sat w0 w (blk Tb 195 [.slice ea evs.length ec] :: F)) :
    Calls Tryz.prog 119 [.pointer (some ⟨Tb, 0, none⟩), .int .i64 t].toArray w fun e w' => ∃ p : Option Addr × Nat × Option Addr × Nat, e = .returned (.slice p.1 ((evs.takeWhile (fun e => e.tick == t)).map (·.id)).length p.2.1) ∧ RoL w0 p.2.2.1 eEvt (evs.dropWhile (fun e => e.tick == t)) ∧ (evs.dropWhile (fun e => e.tick == t)).length ≤ p.2.2.2 ∧
      Sat w0 w' (blk Tb 195 [.slice p.2.2.1 (evs.dropWhile (fun e => e.tick == t)).length p.2.2.2] :: row p.1 p.2.1 3 1 ((evs.takeWhile (fun e => e.tick == t)).map (·.id)).length (((evs.takeWhile (fun e => e.tick == t)).map (·.id)).flatMap eInt) :: F) := by
  refine fstart Tryz.func119 rfl rfl hs ?_
  refine Cd.seq ?_
  refine Cd.region ?_
  refine Ops.q (q_asg rfl) ?_
  refine Ops.to rfl ?_
  refine Cd.seq ?_
  refine Cd.region ?_
  refine Ops.q (q_asg rfl) ?_
  refine Ops.to rfl ?_
  refine Cd.seq ?_
  refine Cd.block ?_
  refine Cd.lp (σ := Nat × Nat × Option Addr × Nat × Option Addr × Nat) (fun s => s.1 ≤ evs.length ∧ s.2.1 = (evs.drop s.1).length ∧ RoL w0 s.2.2.1 eEvt (evs.drop s.1) ∧ s.2.1 ≤ s.2.2.2.1 ∧ ∀ y ∈ evs.take s.1, y.tick = t) (fun s => [(0, .pointer (some ⟨Tb, 0, none⟩)), (1, .int .i64 t), (5, .slice s.2.2.2.2.1 s.1 s.2.2.2.2.2)]) (fun s => blk Tb 195 [.slice s.2.2.1 s.2.1 s.2.2.2.1] :: row s.2.2.2.2.1 s.2.2.2.2.2 3 1 s.1 (((evs.take s.1).map (·.id)).flatMap eInt) :: F) (fun s => evs.length - s.1) (0, evs.length, ea, ec, none, 0) ⟨Nat.zero_le _, rfl, hE, hec, by simp⟩ ⟨rfl, rfl, rfl, trivial⟩ (fun _ hs => by have h1 := hs.nilRow 3 1; exact h1.pull (.there .here)) ?_
  rintro ⟨kk, nn, aa, cc, oa, oc⟩ hI
  dsimp only at hI
  change Cd _ _ _ _ _ _ _ [(0, .pointer (some ⟨Tb, 0, none⟩)), (1, .int .i64 t), (5, .slice oa kk oc)] (blk Tb 195 [.slice aa nn cc] :: row oa oc 3 1 kk (((evs.take kk).map (·.id)).flatMap eInt) :: F)
  have hI1 := hI.1
  refine Cd.seq ?_
  refine Cd.seq ?_
  refine Cd.region ?_
  refine Ops.q (q_mv rfl) ?_
  refine Ops.q (q_nck rfl) ?_
  refine Ops.q (q_fa fo_195_0 rfl) ?_
  refine Ops.q (q_ldB isA_43 rfl .here rfl) ?_
  refine Ops.q (q_len esz_43 rfl) ?_
  by_cases hpos : 0 < (nn : Int)
  · refine Ops.q (q_cmp rfl rfl (c_gt hpos)) ?_
    have hnn : nn = evs.length - kk := by rw [hI.2.1, List.length_drop]
    obtain ⟨x, hx⟩ : ∃ x, evs[kk]? = some x := ⟨_, List.getElem?_eq_getElem (by omega)⟩
    have hx0 : (evs.drop kk)[0]? = some x := by rw [List.getElem?_drop]; exact hx
    obtain ⟨ab, ao, rfl⟩ := RoL.pos hI.2.2.1 eEvt_len hx0
    refine Ops.q (q_mv rfl) ?_
    refine Ops.q (q_mv rfl) ?_
    refine Ops.q (q_nck rfl) ?_
    refine Ops.q (q_fa fo_195_0 rfl) ?_
    refine Ops.q (q_ldB isA_43 rfl .here rfl) ?_
    refine Ops.q (q_ix (k := 0) esz_43 rfl rfl (by omega)) ?_
    refine Ops.q (q_fa fo_70_0 rfl) ?_
    refine Ops.q (q_ldR isA_3 rfl (hI.2.2.1.at eEvt_len hx0 rfl)) ?_
    refine Ops.q (q_mv rfl) ?_
    by_cases h1 : x.tick = t
    · refine Ops.q (q_cmp rfl rfl (c_eq h1)) ?_
      refine Ops.q (q_pickT rfl rfl) ?_
      refine Ops.to rfl ?_
      refine Cd.cond_t rfl ?_
      refine Cd.skipTo rfl ?_
      refine Cd.block ?_
      refine Cd.seq ?_
      refine Cd.region ?_
      refine Ops.q (q_mv rfl) ?_
      refine Ops.q (q_mv rfl) ?_
      refine Ops.q (q_nck rfl) ?_
      refine Ops.q (q_fa fo_195_0 rfl) ?_
      refine Ops.q (q_ldB isA_43 rfl .here rfl) ?_
      refine Ops.q (q_ix (k := 0) esz_43 rfl rfl (by omega)) ?_
      refine Ops.q (q_fa fo_70_1 rfl) ?_
      refine Ops.q (q_ldR isA_3 rfl (hI.2.2.1.at eEvt_len hx0 rfl)) ?_
      refine Ops.lit [.int .i64 x.id] el_31 zsb_3 rfl rfl ⟨by decide, by decide⟩ rfl ?_
      intro b2
      refine Ops.app (news := [.int .i64 x.id]) el_31 zsb_3 (by decide) rfl rfl (fun _ hs => hs.ownRo .here) (fun _ hs => (hs.pull .here).drop) (fun _ _ => (.there .here)) rfl (one rfl) (by omega) (by omega) ?_
      intro a3 c4
      refine Ops.q (q_asg rfl) ?_
      refine Ops.to rfl ?_
      refine Cd.region ?_
      refine Ops.q (q_mv rfl) ?_
      refine Ops.q (q_mv rfl) ?_
      refine Ops.q (q_nck rfl) ?_
      refine Ops.q (q_fa fo_195_0 rfl) ?_
      refine Ops.q (q_ldB isA_43 rfl .here rfl) ?_
      refine Ops.q (q_cut (k := 1) el_43 sz_70 rfl rfl (by omega)) ?_
      refine Ops.q (q_nck rfl) ?_
      refine Ops.q (q_fa fo_195_0 rfl) ?_
      refine Ops.stB [.slice (if cc = 1 then ((some ⟨ab, ao, none⟩) : Option Addr) else ((some ⟨ab, ao, none⟩) : Option Addr).map (·.add (1 * 2))) (nn - 1) (cc - 1)] [.slice (if cc = 1 then ((some ⟨ab, ao, none⟩) : Option Addr) else ((some ⟨ab, ao, none⟩) : Option Addr).map (·.add (1 * 2))) (nn - 1) (cc - 1)] sz_43 rfl rfl rfl (one rfl) .here rfl rfl ?_
      refine Ops.rnd ((kk + 1, nn - 1, if cc = 1 then ((some ⟨ab, ao, none⟩) : Option Addr) else ((some ⟨ab, ao, none⟩) : Option Addr).map (·.add (1 * 2)), cc - 1, a3, c4)) rfl (by dsimp only; exact (by have hdr := drop_get hx; rw [hdr] at hI; exact ⟨by omega, by rw [hI.2.1]; simp, RoL_tail (m := 0) hI.2.2.1 (by rw [← hI.2.1]; exact hI.2.2.2.1), by have := hI.2.2.2.1; omega, by intro y hy; rw [List.take_add_one, hx] at hy; rcases List.mem_append.1 hy with hy | hy; exact hI.2.2.2.2 y hy; obtain rfl := List.mem_singleton.1 hy; assumption⟩)) (by dsimp only; omega) ⟨rfl, rfl, rfl, trivial⟩ (fun _ hs => by have h1 := ((hs.pull (.there .here)).pull (.there .here)); rw [List.take_add_one, hx, List.map_append, fm_app]; exact h1) 
    · refine Ops.q (q_cmp rfl rfl (c_neq h1)) ?_
      refine Ops.q (q_pickT rfl rfl) ?_
      refine Ops.to rfl ?_
      refine Cd.cond_f rfl ?_
      refine Cd.exitTo rfl ?_
      refine Cd.seq ?_
      refine Cd.region ?_
      refine Ops.q (q_mv rfl) ?_
      refine Ops.q (q_asg rfl) ?_
      refine Ops.to rfl ?_
      refine Cd.rt (fn := Tryz.f119) [.slice oa kk oc] (by with_reducible repeat (first | exact rq_here | apply rq_then | apply rq_block)) rfl ⟨rfl, trivial⟩ ?_
      intro w' hs'
      have htw := takeWhile_eq (p := fun e : Evt => e.tick == t) (xs := evs) (k := kk) (fun y hy => by simpa using hI.2.2.2.2 y hy) (fun y hy => by first | (rw [hx] at hy; obtain rfl := Option.some.inj hy; simpa using (by assumption)) | (have h9 := hI.2.1; rw [List.length_drop] at h9; rw [List.getElem?_eq_none (by omega)] at hy; cases hy))
      refine ⟨(oa, oc, (some ⟨ab, ao, none⟩), cc), ?_⟩
      rw [htw.1, htw.2]
      have hl : (evs.take kk).length = kk := by rw [List.length_take]; omega
      exact ⟨by simp only [joinV, List.length_map, hl], hI.2.2.1, by rw [← hI.2.1]; exact hI.2.2.2.1, by simp only [List.length_map, hl]; rw [← hI.2.1]; exact hs'⟩
  · refine Ops.q (q_cmp rfl rfl (c_ngt (by omega))) ?_
    refine Ops.q (q_mv rfl) ?_
    refine Ops.sk ?_
    refine Ops.sk ?_
    refine Ops.sk ?_
    refine Ops.sk ?_
    refine Ops.sk ?_
    refine Ops.sk ?_
    refine Ops.sk ?_
    refine Ops.sk ?_
    refine Ops.sk ?_
    refine Ops.q (q_pickF rfl rfl) ?_
    refine Ops.to rfl ?_
    refine Cd.cond_f rfl ?_
    refine Cd.exitTo rfl ?_
    refine Cd.seq ?_
    refine Cd.region ?_
    refine Ops.q (q_mv rfl) ?_
    refine Ops.q (q_asg rfl) ?_
    refine Ops.to rfl ?_
    refine Cd.rt (fn := Tryz.f119) [.slice oa kk oc] (by with_reducible repeat (first | exact rq_here | apply rq_then | apply rq_block)) rfl ⟨rfl, trivial⟩ ?_
    intro w' hs'
    have htw := takeWhile_eq (p := fun e : Evt => e.tick == t) (xs := evs) (k := kk) (fun y hy => by simpa using hI.2.2.2.2 y hy) (fun y hy => by first | (rw [hx] at hy; obtain rfl := Option.some.inj hy; simpa using (by assumption)) | (have h9 := hI.2.1; rw [List.length_drop] at h9; rw [List.getElem?_eq_none (by omega)] at hy; cases hy))
    refine ⟨(oa, oc, aa, cc), ?_⟩
    rw [htw.1, htw.2]
    have hl : (evs.take kk).length = kk := by rw [List.length_take]; omega
    exact ⟨by simp only [joinV, List.length_map, hl], hI.2.2.1, by rw [← hI.2.1]; exact hI.2.2.2.1, by simp only [List.length_map, hl]; rw [← hI.2.1]; exact hs'⟩
end Go.Proofs.YtilcdghliigngaaGreatDoor
namespace Go.Proofs.YtilcdghliigngaaGreatDoor
open Go.RowKit Go.Proofs.YtilcdghliigngaaGreatDoorGl Go.Proofs.YtilcdghliigngaaGreatDoorPm
set_option linter.unusedVariables false
set_option linter.unusedSimpArgs false
theorem fmT {α β : Type} (f : α → List β) {xs : List α} {j : Nat} {x : α} (hx : xs[j]? = some x) : (xs.take (j + 1)).flatMap f = (xs.take j).flatMap f ++ f x := by
  rw [List.take_add_one, hx, List.flatMap_append]; simp
theorem fmS {α β : Type} (f : α → List β) {xs : List α} {j : Nat} {x : α} (hx : xs[j]? = some x) : xs.flatMap f = (xs.take j).flatMap f ++ (f x ++ (xs.drop (j + 1)).flatMap f) := by
  rw [← List.flatMap_cons, ← drop_get hx, ← List.flatMap_append, List.take_append_drop]
def argS (x : Syn) : List Value := [.agg (eSyn x).toArray]
def metS (ss : List Syn) (fired ids : List Int) : List Syn := fired.flatMap (filt ss) ++ ids.flatMap (fun i => filt ss (-1 - i))
theorem from118_c (J : List Syn → List Atom) (l : Nat) (xs pre : List Syn) (k : Int) (mb yb M : Nat) (E : List WEnt) (ss : List Syn) (hW : WI E ss) (w0 w : World) (Z : List Atom) (hpost : ∃ post, pre ++ filt ss k ++ post = xs) (hlen : (filt ss k).length ≤ 8192)
    (hy : ∀ Y pre x w, (∃ post, pre ++ x :: post = xs) → Sat w0 w (bun (J pre) :: Y) → YCall Tryz.prog l (argS x).toArray w (fun w' => Sat w0 w' (bun (J (pre ++ [x])) :: Y)))
    (hs : Sat w0 w (bun (J pre) :: blk mb 125 [.map (some M)] :: blk yb 201 [.func (.yield l) #[] #[]] :: rd (wφ M E) :: Z)) :
    Calls Tryz.prog 123 [.int .i64 k, .pointer (some ⟨mb, 0, none⟩), .pointer (some ⟨yb, 0, none⟩)].toArray w fun e w' => e = .returned (.bool true) ∧ Sat w0 w' (bun (J (pre ++ filt ss k)) :: blk mb 125 [.map (some M)] :: blk yb 201 [.func (.yield l) #[] #[]] :: rd (wφ M E) :: Z) := by
  obtain ⟨a, c, hl, hr⟩ := wl_get hW k
  have hro := hr M w (hs.read .p3)
  refine fstart Tryz.func123 rfl rfl hs ?_
  refine Cd.seq ?_
  refine Cd.region ?_
  refine Ops.q (q_asg rfl) ?_
  refine Ops.to rfl ?_
  refine Cd.seq ?_
  refine Cd.seq ?_
  refine Cd.region ?_
  refine Ops.q (q_ldB isA_125 rfl (.there .here) rfl) ?_
  refine Ops.q (q_mv rfl) ?_
  refine Ops.q (q_lookW (v := .slice a (filt ss k).length c) mpT_125 iK_3 rfl rfl (fun w hs => by obtain ⟨⟨l, c, h1, h2⟩, _⟩ := hs.read .p3; exact ⟨l, c, _, h1, h2, hl.imp id (fun h => ⟨h.1, by rw [h.2]; exact run_zv zv_38 w⟩)⟩)) ?_
  refine Ops.q (q_len esz_38 rfl) ?_
  refine Ops.q (q_mv rfl) ?_
  refine Ops.to rfl ?_
  refine Cd.block ?_
  refine Cd.lp (σ := Nat) (fun j => j ≤ (filt ss k).length) (fun j => [(1, .pointer (some ⟨mb, 0, none⟩)), (2, .pointer (some ⟨yb, 0, none⟩)), (9, .slice a ((filt ss k).length) c), (10, .int .i64 ((filt ss k).length : Int)), (11, .int .i64 (j : Int))]) (fun j => bun (J (pre ++ (filt ss k).take j)) :: blk mb 125 [.map (some M)] :: blk yb 201 [.func (.yield l) #[] #[]] :: rd (wφ M E) :: Z) (fun j => (filt ss k).length - j) 0 (Nat.zero_le _) ⟨rfl, rfl, rfl, rfl, rfl, trivial⟩ (fun _ hs => by have e : pre ++ (filt ss k).take 0 = pre := List.append_nil _; (try dsimp only); rw [e]; exact hs) ?_
  intro j hI
  refine Cd.seq ?_
  refine Cd.region ?_
  by_cases h1 : (j : Int) < ((filt ss k).length : Int)
  · refine Ops.q (q_cmp rfl rfl (c_lt h1)) ?_
    obtain ⟨x2, hx3⟩ : ∃ x, (filt ss k)[j]? = some x := ⟨_, List.getElem?_eq_getElem (by omega)⟩
    obtain ⟨ab4, ao5, rfl⟩ := RoL.pos hro eSyn_len hx3
    refine Ops.to rfl ?_
    refine Cd.seq ?_
    refine Cd.cond_t rfl ?_
    refine Cd.skipTo rfl ?_
    refine Cd.seq ?_
    refine Cd.block ?_
    refine Cd.seq ?_
    refine Cd.region ?_
    refine Ops.q (q_ix (k := j) esz_38 rfl rfl (by omega)) ?_
    refine Ops.q (q_ldN (vs := [.int .i64 x2.src, .int .i64 x2.dst, .int .i64 x2.wt, .int .i64 x2.dl]) isA_109 sz_109 rfl (fun w hs j u hu => RoL.at (hr M w (hs.read .p3)) eSyn_len hx3 hu)) ?_
    refine Ops.alc [.int .i64 0, .int .i64 0, .int .i64 0, .int .i64 0] zc_109 ?_
    intro b6
    refine Ops.stB [.int .i64 x2.src, .int .i64 x2.dst, .int .i64 x2.wt, .int .i64 x2.dl] [.int .i64 x2.src, .int .i64 x2.dst, .int .i64 x2.wt, .int .i64 x2.dl] sz_109 rfl rfl rfl (one rfl) .here rfl rfl ?_
    refine Ops.to rfl ?_
    refine Cd.seq ?_
    refine Cd.region ?_
    refine Ops.q (q_ldB isA_201 rfl .p3 rfl) ?_
    refine Ops.q (q_ldBN [.int .i64 x2.src, .int .i64 x2.dst, .int .i64 x2.wt, .int .i64 x2.dl] isA_109 sz_109 rfl .here rfl) ?_
    have hp1 : ∃ post', (pre ++ (filt ss k).take j) ++ x2 :: post' = xs := by obtain ⟨post, hp⟩ := hpost; exact ⟨(filt ss k).drop (j + 1) ++ post, by rw [← hp, List.append_assoc, List.append_assoc, ← List.cons_append, ← drop_get hx3, ← List.append_assoc (List.take j _), List.take_append_drop]⟩
    refine Ops.yl (vs := argS x2) rfl rfl (fun w hs => hy _ _ x2 w hp1 (hs.pull (.there .here))) ?_
    refine Ops.q (q_not rfl) ?_
    refine Ops.to rfl ?_
    refine Cd.cond_f rfl ?_
    refine Cd.skipTo rfl ?_
    refine Cd.region ?_
    refine Ops.q (q_ar rfl rfl (a_inc (by omega))) ?_
    refine Ops.q (q_mv rfl) ?_
    refine Ops.rnd (j + 1) rfl (by omega) (by omega) ⟨rfl, rfl, rfl, rfl, rfl, trivial⟩ (fun _ hs => by have h1 := (((((hs.pull .p4).pull .p4).pull .p4).pull .p3).pull .p4).drop; (try dsimp only); rw [List.take_add_one, hx3, ← List.append_assoc]; exact h1) 
  · refine Ops.q (q_cmp rfl rfl (c_nlt (by omega))) ?_
    refine Ops.to rfl ?_
    refine Cd.seq ?_
    refine Cd.cond_f rfl ?_
    refine Cd.exitTo rfl ?_
    refine Cd.seq ?_
    refine Cd.region ?_
    refine Ops.q (q_asg rfl) ?_
    refine Ops.to rfl ?_
    refine Cd.rt (fn := Tryz.f123) [.bool true] (by with_reducible repeat (first | exact rq_here | apply rq_then | apply rq_block)) rfl ⟨rfl, trivial⟩ ?_
    intro w' hs'
    rw [List.take_of_length_le (by omega)] at hs'
    exact ⟨rfl, hs'⟩
theorem filt_le {ss : List Syn} (h : ss.length ≤ 8192) (k : Int) : (filt ss k).length ≤ 8192 := Nat.le_trans (List.length_filter_le _ _) h
theorem iter117 (mb fb ib M : Nat) (E : List WEnt) (ss : List Syn) (hW : WI E ss) (hlen : ss.length ≤ 8192) (fa : Option Addr) (fc : Nat) (fired : List Int) (ia : Option Addr) (ic : Nat) (ids : List Int) (hids : ∀ i ∈ ids, wi i 0 100000) (hfl : fired.length ≤ 100000) (hil : ids.length ≤ 100000) (w0 : World) :
    Iter Tryz.prog 122 [.pointer (some ⟨mb, 0, none⟩), .pointer (some ⟨fb, 0, none⟩), .pointer (some ⟨ib, 0, none⟩)] argS (metS ss fired ids) w0
      [blk mb 125 [.map (some M)], blk fb 31 [.slice fa fired.length fc], blk ib 31 [.slice ia ids.length ic], row fa fc 3 1 fired.length (fired.flatMap eInt), row ia ic 3 1 ids.length (ids.flatMap eInt), rd (wφ M E)] := by
  intro J l w hy hs
  refine fstart Tryz.func122 rfl rfl hs ?_
  refine Cd.seq ?_
  refine Cd.region ?_
  refine Ops.box [.func (.yield l) #[] #[]] rfl rfl ?_
  intro b1
  refine Ops.to rfl ?_
  refine Cd.seq ?_
  refine Cd.region ?_
  refine Ops.q (q_mkf rfl rfl) ?_
  refine Ops.q (q_asg rfl) ?_
  refine Ops.to rfl ?_
  refine Cd.seq ?_
  refine Cd.seq ?_
  refine Cd.region ?_
  refine Ops.q (q_ldB isA_31 rfl .p3 rfl) ?_
  refine Ops.q (q_len esz_31 rfl) ?_
  refine Ops.q (q_mv rfl) ?_
  refine Ops.to rfl ?_
  refine Cd.block ?_
  refine Cd.lp (σ := Nat) (fun j => j ≤ fired.length) (fun j => [(3, .pointer (some ⟨ib, 0, none⟩)), (5, .func (.func 123) [].toArray [.pointer (some ⟨mb, 0, none⟩), .pointer (some ⟨b1, 0, none⟩)].toArray), (11, .slice fa fired.length fc), (12, .int .i64 (fired.length : Int)), (13, .int .i64 (j : Int))]) (fun j => [bun (J ((fired.take j).flatMap (filt ss))), blk mb 125 [.map (some M)], blk b1 201 [.func (.yield l) #[] #[]], rd (wφ M E), blk fb 31 [.slice fa fired.length fc], blk ib 31 [.slice ia ids.length ic], row fa fc 3 1 fired.length (fired.flatMap eInt), row ia ic 3 1 ids.length (ids.flatMap eInt)]) (fun j => fired.length - j) 0 (Nat.zero_le _) ⟨rfl, rfl, rfl, rfl, rfl, trivial⟩ (fun _ hs => by have h1 := ((((((((hs.pull .p6).pull .p6).pull .p6).pull .p6).pull .p7).pull .p5).pull .p7).pull .p7); exact h1) ?_
  intro j hI
  refine Cd.seq ?_
  refine Cd.region ?_
  by_cases h2 : (j : Int) < (fired.length : Int)
  · refine Ops.q (q_cmp rfl rfl (c_lt h2)) ?_
    obtain ⟨x3, hx4⟩ : ∃ x, fired[j]? = some x := ⟨_, List.getElem?_eq_getElem (by omega)⟩
    refine Ops.rowpos .p6 (by omega) ?_
    rintro rb5 rfl
    refine Ops.to rfl ?_
    refine Cd.seq ?_
    refine Cd.cond_t rfl ?_
    refine Cd.skipTo rfl ?_
    refine Cd.seq ?_
    refine Cd.block ?_
    refine Cd.seq ?_
    refine Cd.region ?_
    refine Ops.q (q_ix (k := j) esz_31 rfl rfl (by omega)) ?_
    refine Ops.q (q_ldO isA_3 rfl .p6 (fm_at0 eInt_len hx4 rfl)) ?_
    refine Ops.q (q_asg rfl) ?_
    refine Ops.to rfl ?_
    refine Cd.seq ?_
    refine Cd.region ?_
    refine Ops.q (q_mv rfl) ?_
    refine Ops.q (q_mv rfl) ?_
    have hp1 : ∃ post, (fired.take j).flatMap (filt ss) ++ filt ss x3 ++ post = metS ss fired ids := ⟨(fired.drop (j + 1)).flatMap (filt ss) ++ ids.flatMap (fun i => filt ss (-1 - i)), by unfold metS; rw [fmS _ hx4]; simp⟩
    refine Ops.cv (α := Unit) (k := 123) (first := []) (caps := [.pointer (some ⟨mb, 0, none⟩), .pointer (some ⟨b1, 0, none⟩)]) (vs := [.int .i64 x3]) (v := fun _ => .bool true) (A' := fun _ => [bun (J ((fired.take j).flatMap (filt ss) ++ filt ss x3)), blk mb 125 [.map (some M)], blk b1 201 [.func (.yield l) #[] #[]], rd (wφ M E), blk fb 31 [.slice (some ⟨rb5, 0, none⟩) fired.length fc], blk ib 31 [.slice ia ids.length ic], row (some ⟨rb5, 0, none⟩) fc 3 1 fired.length (fired.flatMap eInt), row ia ic 3 1 ids.length (ids.flatMap eInt)]) en_123 rfl rfl (fun w hs => (from118_c J l (metS ss fired ids) _ x3 mb b1 M E ss hW w0 w _ hp1 (filt_le hlen _) hy hs).mono fun e w' h => ⟨(), h⟩) ?_
    intro _
    refine Ops.q (q_not rfl) ?_
    refine Ops.to rfl ?_
    refine Cd.cond_f rfl ?_
    refine Cd.skipTo rfl ?_
    refine Cd.region ?_
    refine Ops.q (q_ar rfl rfl (a_inc (by omega))) ?_
    refine Ops.q (q_mv rfl) ?_
    refine Ops.rnd (j + 1) rfl (by omega) (by omega) ⟨rfl, rfl, rfl, rfl, rfl, trivial⟩ (fun _ hs => by (try dsimp only); rw [fmT _ hx4]; exact hs) 
  · refine Ops.q (q_cmp rfl rfl (c_nlt (by omega))) ?_
    refine Ops.to rfl ?_
    refine Cd.seq ?_
    refine Cd.cond_f rfl ?_
    refine Cd.exitTo rfl ?_
    refine Cd.seq ?_
    refine Cd.region ?_
    refine Ops.q (q_ldB isA_31 rfl .p5 rfl) ?_
    refine Ops.q (q_len esz_31 rfl) ?_
    refine Ops.q (q_mv rfl) ?_
    refine Ops.to rfl ?_
    refine Cd.block ?_
    refine Cd.lp (σ := Nat) (fun j => j ≤ ids.length) (fun j => [(5, .func (.func 123) [].toArray [.pointer (some ⟨mb, 0, none⟩), .pointer (some ⟨b1, 0, none⟩)].toArray), (22, .slice ia ids.length ic), (23, .int .i64 (ids.length : Int)), (24, .int .i64 (j : Int))]) (fun j => [bun (J (fired.flatMap (filt ss) ++ (ids.take j).flatMap (fun i => filt ss (-1 - i)))), blk mb 125 [.map (some M)], blk b1 201 [.func (.yield l) #[] #[]], rd (wφ M E), blk fb 31 [.slice fa fired.length fc], blk ib 31 [.slice ia ids.length ic], row fa fc 3 1 fired.length (fired.flatMap eInt), row ia ic 3 1 ids.length (ids.flatMap eInt)]) (fun j => ids.length - j) 0 (Nat.zero_le _) ⟨rfl, rfl, rfl, rfl, trivial⟩ (fun _ hs => by have h1 := ((((((((hs.pull .p7).pull .p7).pull .p7).pull .p7).pull .p7).pull .p7).pull .p7).pull .p7); (try dsimp only); rw [show fired.flatMap (filt ss) ++ (ids.take 0).flatMap (fun i => filt ss (-1 - i)) = (fired.take j).flatMap (filt ss) from by rw [List.take_of_length_le (show fired.length ≤ j by omega)]; exact List.append_nil _]; exact h1) ?_
    intro j hI
    refine Cd.seq ?_
    refine Cd.region ?_
    by_cases h6 : (j : Int) < (ids.length : Int)
    · refine Ops.q (q_cmp rfl rfl (c_lt h6)) ?_
      obtain ⟨x7, hx8⟩ : ∃ x, ids[j]? = some x := ⟨_, List.getElem?_eq_getElem (by omega)⟩
      refine Ops.rowpos .p7 (by omega) ?_
      rintro rb9 rfl
      have hid := hids _ (List.mem_iff_getElem?.2 ⟨j, hx8⟩)
      refine Ops.to rfl ?_
      refine Cd.seq ?_
      refine Cd.cond_t rfl ?_
      refine Cd.skipTo rfl ?_
      refine Cd.seq ?_
      refine Cd.block ?_
      refine Cd.seq ?_
      refine Cd.region ?_
      refine Ops.q (q_ix (k := j) esz_31 rfl rfl (by omega)) ?_
      refine Ops.q (q_ldO isA_3 rfl .p7 (fm_at0 eInt_len hx8 rfl)) ?_
      refine Ops.q (q_asg rfl) ?_
      refine Ops.to rfl ?_
      refine Cd.seq ?_
      refine Cd.region ?_
      refine Ops.q (q_mv rfl) ?_
      refine Ops.q (q_mv rfl) ?_
      refine Ops.q (q_ar rfl rfl (a_sub (by unfold wi at hid; omega))) ?_
      have hp1 : ∃ post, fired.flatMap (filt ss) ++ (ids.take j).flatMap (fun i => filt ss (-1 - i)) ++ filt ss (-1 - x7) ++ post = metS ss fired ids := ⟨(ids.drop (j + 1)).flatMap (fun i => filt ss (-1 - i)), by unfold metS; rw [fmS (fun i => filt ss (-1 - i)) hx8]; simp⟩
      refine Ops.cv (α := Unit) (k := 123) (first := []) (caps := [.pointer (some ⟨mb, 0, none⟩), .pointer (some ⟨b1, 0, none⟩)]) (vs := [.int .i64 (-1 - x7)]) (v := fun _ => .bool true) (A' := fun _ => [bun (J (fired.flatMap (filt ss) ++ (ids.take j).flatMap (fun i => filt ss (-1 - i)) ++ filt ss (-1 - x7))), blk mb 125 [.map (some M)], blk b1 201 [.func (.yield l) #[] #[]], rd (wφ M E), blk fb 31 [.slice fa fired.length fc], blk ib 31 [.slice (some ⟨rb9, 0, none⟩) ids.length ic], row fa fc 3 1 fired.length (fired.flatMap eInt), row (some ⟨rb9, 0, none⟩) ic 3 1 ids.length (ids.flatMap eInt)]) en_123 rfl rfl (fun w hs => (from118_c J l (metS ss fired ids) _ (-1 - x7) mb b1 M E ss hW w0 w _ hp1 (filt_le hlen _) hy hs).mono fun e w' h => ⟨(), h⟩) ?_
      intro _
      refine Ops.q (q_not rfl) ?_
      refine Ops.to rfl ?_
      refine Cd.cond_f rfl ?_
      refine Cd.skipTo rfl ?_
      refine Cd.region ?_
      refine Ops.q (q_ar rfl rfl (a_inc (by omega))) ?_
      refine Ops.q (q_mv rfl) ?_
      refine Ops.rnd (j + 1) rfl (by omega) (by omega) ⟨rfl, rfl, rfl, rfl, trivial⟩ (fun _ hs => by (try dsimp only); rw [fmT _ hx8, ← List.append_assoc]; exact hs) 
    · refine Ops.q (q_cmp rfl rfl (c_nlt (by omega))) ?_
      refine Ops.to rfl ?_
      refine Cd.seq ?_
      refine Cd.cond_f rfl ?_
      refine Cd.exitFin (fn := Tryz.f122) (by with_reducible repeat (first | exact xq_here | apply xq_then | apply xq_block | apply nq_block)) rfl ?_
      intro w' hs
      have h1 := ((((((((hs.pull .p3).pull .p7).pull .p7).pull .p7).pull .p7).pull .p6).pull .p6).pull .p7).drop
      rw [List.take_of_length_le (show ids.length ≤ j by omega)] at h1
      exact ⟨rfl, h1⟩
end Go.Proofs.YtilcdghliigngaaGreatDoor
namespace Go.Proofs.YtilcdghliigngaaGreatDoor
open Go.RowKit Go.Proofs.YtilcdghliigngaaGreatDoorGl Go.Proofs.YtilcdghliigngaaGreatDoorPm
set_option linter.unusedVariables false
set_option linter.unusedSimpArgs false
theorem fm_atN {α : Type} {enc : α → List Value} {sz : Nat} (h : ∀ x, (enc x).length = sz) {xs : List α} {k : Nat} {x : α} (hx : xs[k]? = some x) : ((xs.flatMap enc).drop (0 + k * sz)).take (enc x).length = enc x := by
  rw [Nat.zero_add]
  induction xs generalizing k with
  | nil => simp at hx
  | cons y ys ih =>
    cases k with
    | zero =>
      obtain rfl : y = x := by simpa using hx
      simp
    | succ k =>
      rw [List.flatMap_cons, Nat.succ_mul, Nat.add_comm, List.drop_append, List.drop_of_length_le (by rw [h]; omega), h y, Nat.add_sub_cancel_left, List.nil_append]
      exact ih (by simpa using hx)
theorem Pull.left {a : Atom} {X X' : List Atom} (h : Pull X a X') (Y : List Atom) : Pull (X ++ Y) a (X' ++ Y) := by
  induction h with
  | here => exact .here
  | there _ ih => exact .there ih
theorem metS_mem {ss : List Syn} {fired ids : List Int} {s : Syn} (h : s ∈ metS ss fired ids) : s ∈ ss := by
  unfold metS filt at h
  rcases List.mem_append.1 h with h | h
  · obtain ⟨_, _, h⟩ := List.mem_flatMap.1 h; exact (List.mem_filter.1 h).1
  · obtain ⟨_, _, h⟩ := List.mem_flatMap.1 h; exact (List.mem_filter.1 h).1
theorem fm_set {α : Type} {enc : α → List Value} {sz : Nat} (h : ∀ x, (enc x).length = sz) : ∀ (xs : List α) (k : Nat) (y : α), k < xs.length → (xs.flatMap enc).take (0 + k * sz) ++ enc y ++ (xs.flatMap enc).drop (0 + k * sz + (enc y).length) = (xs.set k y).flatMap enc
  | [], k, y, hk => by simp at hk
  | x :: xs, 0, y, hk => by
    rw [h, ← h x]; simp
  | x :: xs, k + 1, y, hk => by
    have ih := fm_set h xs k y (by simpa using hk)
    have e1 : 0 + (k + 1) * sz = (enc x).length + (0 + k * sz) := by rw [h, Nat.succ_mul]; omega
    rw [e1]
    simp only [List.flatMap_cons, List.set_cons_succ, List.append_assoc]
    rw [List.take_append, List.take_of_length_le (by omega), Nat.add_sub_cancel_left, Nat.add_assoc, List.drop_append, List.drop_of_length_le (by omega), Nat.add_sub_cancel_left]
    simp only [List.append_assoc, List.nil_append] at ih ⊢
    rw [ih]
theorem upd_get {α : Type} {f : α → Atom} : ∀ {E : List α} {i : Nat} {e e' : α}, E[i]? = some e → Upd (E.map f) (f e) (f e') ((E.set i e').map f)
  | [], i, e, _, h => by simp at h
  | x :: E, 0, e, _, h => by obtain rfl : x = e := by simpa using h
                             exact .here
  | x :: E, i + 1, e, _, h => .there (upd_get (by simpa using h))
def addQ (now : Nat) (q : List (Nat × List Int)) (s : Syn) : List (Nat × List Int) := q.modify (((now : Int) + s.dl) % 16).toNat fun x => (x.1, x.2.modify s.dst.toNat fun v => IntKind.i64.wrap (v + s.wt))
def clrQ (now n : Nat) (q : List (Nat × List Int)) : List (Nat × List Int) := q.modify (now % 16) fun x => (x.1, List.replicate n 0)
theorem modify_set {α : Type} {f : α → α} {xs : List α} {k : Nat} {x : α} (h : xs[k]? = some x) : xs.modify k f = xs.set k (f x) := by
  obtain ⟨hk, he⟩ := List.getElem?_eq_some_iff.1 h
  apply List.ext_getElem?
  intro j
  rw [List.getElem?_modify, List.getElem?_set]
  by_cases hj : k = j
  · subst hj; simp [hk, he]
  · simp [hj]
theorem addQ_set {now : Nat} {q : List (Nat × List Int)} {s : Syn} {j dn : Nat} {x : Nat × List Int} {v : Int} (hj : ((now : Int) + s.dl) % 16 = (j : Int)) (hd : s.dst = (dn : Int)) (hx : q[j]? = some x) (hv : x.2[dn]? = some v) : addQ now q s = q.set j (x.1, x.2.set dn (IntKind.i64.wrap (v + s.wt))) := by
  unfold addQ
  rw [hj, hd, Int.toNat_natCast, Int.toNat_natCast, modify_set hx, modify_set hv]
theorem cells_modify {n : Nat} (q : List (Nat × List Int)) (k : Nat) (f : Nat × List Int → Nat × List Int) (hf : ∀ x, (f x).1 = x.1) : (q.modify k f).map (rcell n) = q.map (rcell n) := by
  apply List.ext_getElem?
  intro j
  simp only [List.getElem?_map, List.getElem?_modify]
  by_cases hj : k = j
  · subst hj; cases q[k]? <;> simp [rcell, hf]
  · simp [hj]
def ringOK (n : Nat) (q : List (Nat × List Int)) : Prop := q.length = 16 ∧ ∀ x ∈ q, x.2.length = n
theorem ringOK.add {n now : Nat} {q : List (Nat × List Int)} (h : ringOK n q) (s : Syn) : ringOK n (addQ now q s) := by
  refine ⟨by simp [addQ, h.1], fun x hx => ?_⟩
  obtain ⟨j, hj⟩ := List.mem_iff_getElem?.1 hx
  simp only [addQ, List.getElem?_modify] at hj
  cases hq : q[j]? with
  | none => rw [hq] at hj; simp at hj
  | some y =>
    have := h.2 y (List.mem_iff_getElem?.2 ⟨j, hq⟩)
    rw [hq] at hj
    simp at hj
    split at hj <;> subst hj <;> simpa using this
theorem ringOK.addAll {n now : Nat} : ∀ (l : List Syn) {q : List (Nat × List Int)}, ringOK n q → ringOK n (l.foldl (addQ now) q)
  | [], _, h => h
  | s :: l, _, h => ringOK.addAll l (h.add s)
theorem ringOK.clr {n now : Nat} {q : List (Nat × List Int)} (h : ringOK n q) : ringOK n (clrQ now n q) := by
  refine ⟨by simp [clrQ, h.1], fun x hx => ?_⟩
  obtain ⟨j, hj⟩ := List.mem_iff_getElem?.1 hx
  simp only [clrQ, List.getElem?_modify] at hj
  cases hq : q[j]? with
  | none => rw [hq] at hj; simp at hj
  | some y =>
    have := h.2 y (List.mem_iff_getElem?.2 ⟨j, hq⟩)
    rw [hq] at hj
    simp at hj
    split at hj <;> subst hj <;> simp [this]
theorem foldl_snoc {α β : Type} (f : β → α → β) (b : β) (l : List α) (x : α) : (l ++ [x]).foldl f b = f (l.foldl f b) x := by simp
theorem sim_cells {S n : Nat} {pre : List Value} {w0 w : World} {A : List Atom} {q : List (Nat × List Int)} {k : Nat} {f : Nat × List Int → Nat × List Int} (hf : ∀ x, (f x).1 = x.1) (h : Sat w0 w (blk S 130 (pre ++ q.map (rcell n)) :: A)) : Sat w0 w (blk S 130 (pre ++ (q.modify k f).map (rcell n)) :: A) := by
  rw [cells_modify q k f hf]; exact h
theorem from101_c (M : Nat) (fa : Option Addr) (fn fc : Nat) (ia : Option Addr) (m ic : Nat) (w : World) : Calls Tryz.prog 101 [.map (some M), .slice fa fn fc, .slice ia m ic].toArray w fun e w' => ∃ x : Nat × Nat × Nat, e = .returned (.func (.func 122) #[] #[.pointer (some ⟨x.1, 0, none⟩), .pointer (some ⟨x.2.1, 0, none⟩), .pointer (some ⟨x.2.2, 0, none⟩)]) ∧ Sat w w' [blk x.1 125 [.map (some M)], blk x.2.1 31 [.slice fa fn fc], blk x.2.2 31 [.slice ia m ic]] := by
  refine fstart Tryz.func101 rfl rfl (Sat.nil w) ?_
  refine Cd.seq ?_
  refine Cd.region ?_
  refine Ops.box [.map (some M)] rfl rfl ?_
  intro b1
  refine Ops.box [.slice fa fn fc] rfl rfl ?_
  intro b2
  refine Ops.box [.slice ia m ic] rfl rfl ?_
  intro b3
  refine Ops.q (q_asg rfl) ?_
  refine Ops.to rfl ?_
  refine Cd.seq ?_
  refine Cd.region ?_
  refine Ops.q (q_mkf rfl rfl) ?_
  refine Ops.q (q_asg rfl) ?_
  refine Ops.to rfl ?_
  refine Cd.rt (fn := Tryz.f101) [.func (.func 122) #[] #[.pointer (some ⟨b1, 0, none⟩), .pointer (some ⟨b2, 0, none⟩), .pointer (some ⟨b3, 0, none⟩)]] (by with_reducible repeat (first | exact rq_here | apply rq_then | apply rq_block)) rfl ⟨rfl, trivial⟩ ?_
  intro w' hs
  exact ⟨(b1, b2, b3), rfl, (((hs.pull .here).pull (.there .here)).pull .p2)⟩
theorem Sat.swapTail {w0 w : World} {A B C : List Atom} (h : Sat w0 w (A ++ (B ++ C))) : Sat w0 w (A ++ (C ++ B)) := by
  obtain ⟨hB, T, hs, ht⟩ := h
  obtain ⟨S, U, h1, h2, h3, h4⟩ := Sats.split hs
  obtain ⟨S2, U2, g1, g2, g3, g4⟩ := Sats.split h2
  have k1 := Sats.append g1 g2 (fun k hk hs => g3 k hs hk)
  have k2 := Sats.append k1 h1 (fun k hk hs => h3 k hk ((g4 k).2 hs.symm))
  exact ⟨hB, _, k2, fun k hk => ht k ((h4 k).2 (hk.imp id (fun h => (g4 k).2 h.symm)))⟩
theorem toEnd6 {w0 w : World} {a b c d e1 e2 e3 e4 e5 e6 : Atom} {FR : List Atom} (h : Sat w0 w (a :: b :: c :: d :: e1 :: e2 :: e3 :: e4 :: e5 :: e6 :: FR)) : Sat w0 w ((a :: b :: c :: d :: FR) ++ [e1, e2, e3, e4, e5, e6]) :=
  Sat.swapTail (A := [a, b, c, d]) (B := [e1, e2, e3, e4, e5, e6]) (C := FR) h
theorem fromEnd6 {w0 w : World} {a b c e1 e2 e3 e4 e5 e6 : Atom} {FR : List Atom} (h : Sat w0 w (a :: b :: c :: (FR ++ [e1, e2, e3, e4, e5, e6]))) : Sat w0 w (a :: b :: c :: e6 :: e4 :: FR) := by
  have h1 : Sat w0 w (a :: b :: c :: e1 :: e2 :: e3 :: e4 :: e5 :: e6 :: FR) := Sat.swapTail (A := [a, b, c]) (B := FR) (C := [e1, e2, e3, e4, e5, e6]) h
  have h2 := (h1.pull .p3).drop
  have h3 := (h2.pull .p3).drop
  have h4 := (h3.pull .p3).drop
  have h5 := (h4.pull .p4).drop
  exact (((h5.pull .p4).pull .p3).pull .p3).pull .p3
theorem step_c (S : Nat) (na : Option Addr) (nc : Nat) (sa : Option Addr) (sc : Nat) (ns : List Prm) (ip : Int) (m : Nat) (M : Nat) (E : List WEnt) (now : Nat) (B : Nat) (sts : List Stt) (q : List (Nat × List Int)) (F : List Atom) (ia : Option Addr) (ic : Nat) (ids : List Int) (ss : List Syn) (x0 : Nat × List Int) (T : List (Stt × Bool)) (w0 w : World) (hW : WI E ss) (hss : ∀ s ∈ ss, wi s.dst 0 ((ns.length : Int) - 1) ∧ wi s.dl 1 16) (hlen : ss.length ≤ 8192) (hn : ns.length ≤ 1024)
    (hst : sts.length = ns.length) (hq : ringOK ns.length q) (hnow : now < 10000) (hids : ∀ i ∈ ids, wi i 0 100000) (hil : ids.length ≤ 65536) (hx0 : q[now % 16]? = some x0) (hT : T = tickAll ns sts x0.2)
    (hs : Sat w0 w (simA S na nc sa sc ns ip m M E now B sts q (row ia ic 3 1 ids.length (ids.flatMap eInt) :: F))) :
    Calls Tryz.prog 68 [.pointer (some ⟨S, 0, none⟩), .slice ia ids.length ic].toArray w fun e w' => ∃ p : Option Addr × Nat, e = .returned (.slice p.1 (fireI 0 T).length p.2) ∧
      Sat w0 w' (simA S na nc sa sc ns ip m M E (now + 1) B (T.map (·.1)) ((metS ss (fireI 0 T) ids).foldl (addQ now) (clrQ now ns.length q)) (row p.1 p.2 3 1 (fireI 0 T).length ((fireI 0 T).flatMap eInt) :: F)) := by
  have hx0l : x0.2.length = ns.length := hq.2 x0 (List.mem_iff_getElem?.2 ⟨_, hx0⟩)
  have hTl : T.length = ns.length := by rw [hT]; exact tickAll_length (by omega) hx0l
  have hfT := fireI_len T 0
  refine fstartM Tryz.func68 rfl rfl hs ?_
  refine Cd.seq ?_
  refine Cd.region ?_
  refine Ops.box [.pointer (some ⟨S, 0, none⟩)] rfl rfl ?_
  intro b1
  refine Ops.q (q_asg rfl) ?_
  refine Ops.to rfl ?_
  refine Cd.seq ?_
  refine Cd.region ?_
  refine Ops.q (q_asg rfl) ?_
  refine Ops.to rfl ?_
  refine Cd.seq ?_
  refine Cd.region ?_
  refine Ops.q (q_ldB isA_76 rfl .here rfl) ?_
  refine Ops.cm (α := Unit) (v := fun _ => rcell ns.length x0) (A' := fun _ => blk S 130 ([.slice na ns.length nc, .int .i64 ip, .slice sa m sc, .map (some M), .int .i64 (now : Int), .slice (some ⟨B, 0, none⟩) ns.length ns.length] ++ q.map (rcell ns.length)) :: blk b1 76 [.pointer (some ⟨S, 0, none⟩)] :: row (some ⟨B, 0, none⟩) ns.length 133 2 ns.length (sts.flatMap eStt) :: row na nc 62 8 ns.length (ns.flatMap ePrm) :: rd (wφ M E) :: row ia ic 3 1 ids.length (ids.flatMap eInt) :: (F ++ q.map (rrow ns.length))) en_99 rfl (fun w hs => (row_c S _ _ _ _ ns ip m M now B q (blk b1 76 [.pointer (some ⟨S, 0, none⟩)] :: row (some ⟨B, 0, none⟩) ns.length 133 2 ns.length (sts.flatMap eStt) :: row na nc 62 8 ns.length (ns.flatMap ePrm) :: rd (wφ M E) :: row ia ic 3 1 ids.length (ids.flatMap eInt) :: (F ++ q.map (rrow ns.length))) 0 (now % 16) x0 w0 w (by omega) (by omega) hx0 (by omega) (by omega) (hs.pull (.there .here))).mono fun e w' h => ⟨(), h⟩) ?_
  intro _
  refine Ops.q (q_asg rfl) ?_
  refine Ops.to rfl ?_
  refine Cd.seq ?_
  refine Cd.seq ?_
  refine Cd.region ?_
  refine Ops.q (q_mv rfl) ?_
  refine Ops.q (q_len esz_31 rfl) ?_
  refine Ops.q (q_mv rfl) ?_
  refine Ops.to rfl ?_
  refine Cd.block ?_
  refine Cd.lp (σ := Nat × Option Addr × Nat) (fun s => s.1 ≤ ns.length) (fun s => [(1, .slice ia ids.length ic), (2, .pointer (some ⟨b1, 0, none⟩)), (5, .slice s.2.1 ((fireI 0 (T.take s.1)).length) s.2.2), (6, .slice (some ⟨x0.1, 0, none⟩) ns.length ns.length), (15, .slice (some ⟨x0.1, 0, none⟩) ns.length ns.length), (16, .int .i64 (ns.length : Int)), (17, .int .i64 (s.1 : Int))]) (fun s => blk S 130 ([.slice na ns.length nc, .int .i64 ip, .slice sa m sc, .map (some M), .int .i64 (now : Int), .slice (some ⟨B, 0, none⟩) ns.length ns.length] ++ q.map (rcell ns.length)) :: row (some ⟨B, 0, none⟩) ns.length 133 2 ns.length ((midS T sts s.1).flatMap eStt) :: row na nc 62 8 ns.length (ns.flatMap ePrm) :: rd (wφ M E) :: blk b1 76 [.pointer (some ⟨S, 0, none⟩)] :: row ia ic 3 1 ids.length (ids.flatMap eInt) :: row s.2.1 s.2.2 3 1 ((fireI 0 (T.take s.1)).length) ((fireI 0 (T.take s.1)).flatMap eInt) :: (F ++ q.map (rrow ns.length))) (fun s => ns.length - s.1) (0, none, 0) (Nat.zero_le _) ⟨rfl, rfl, rfl, rfl, rfl, rfl, rfl, trivial⟩ (fun _ hs => by have h1 := ((((((hs.pull .p5).pull .p2).pull .p5).pull .p5).pull .p5).pull .p5); have h2 := h1.nilRow 3 1; exact Sat.push h2 .p6) ?_
  rintro ⟨kk, oa, oc⟩ hI
  dsimp only at hI
  change Cd _ _ _ _ _ _ _ [(1, .slice ia ids.length ic), (2, .pointer (some ⟨b1, 0, none⟩)), (5, .slice oa ((fireI 0 (T.take kk)).length) oc), (6, .slice (some ⟨x0.1, 0, none⟩) ns.length ns.length), (15, .slice (some ⟨x0.1, 0, none⟩) ns.length ns.length), (16, .int .i64 (ns.length : Int)), (17, .int .i64 (kk : Int))] (blk S 130 ([.slice na ns.length nc, .int .i64 ip, .slice sa m sc, .map (some M), .int .i64 (now : Int), .slice (some ⟨B, 0, none⟩) ns.length ns.length] ++ q.map (rcell ns.length)) :: row (some ⟨B, 0, none⟩) ns.length 133 2 ns.length ((midS T sts kk).flatMap eStt) :: row na nc 62 8 ns.length (ns.flatMap ePrm) :: rd (wφ M E) :: blk b1 76 [.pointer (some ⟨S, 0, none⟩)] :: row ia ic 3 1 ids.length (ids.flatMap eInt) :: row oa oc 3 1 ((fireI 0 (T.take kk)).length) ((fireI 0 (T.take kk)).flatMap eInt) :: (F ++ q.map (rrow ns.length)))
  refine Cd.seq ?_
  refine Cd.region ?_
  by_cases hk : (kk : Int) < (ns.length : Int)
  · refine Ops.q (q_cmp rfl rfl (c_lt hk)) ?_
    obtain ⟨x2, hx3⟩ : ∃ x, ns[kk]? = some x := ⟨_, List.getElem?_eq_getElem (by omega)⟩
    refine Ops.rowpos .p2 (by omega) ?_
    rintro rb4 rfl
    obtain ⟨s, hs0⟩ : ∃ s, sts[kk]? = some s := ⟨_, List.getElem?_eq_getElem (by omega)⟩
    obtain ⟨v, hv⟩ : ∃ v, x0.2[kk]? = some v := ⟨_, List.getElem?_eq_getElem (by omega)⟩
    have ht : T[kk]? = some (tickP x2 s v) := by rw [hT]; exact tickAll_get hx3 hs0 hv
    have hsm : (midS T sts kk)[kk]? = some s := by rw [midS_get (by omega) (by omega)]; exact hs0
    have hml : (midS T sts kk).length = sts.length := midS_len (by omega) (by omega)
    have hfl := fireI_len (T.take kk) 0
    rw [List.length_take] at hfl
    refine Ops.to rfl ?_
    refine Cd.seq ?_
    refine Cd.cond_t rfl ?_
    refine Cd.skipTo rfl ?_
    refine Cd.seq ?_
    refine Cd.block ?_
    refine Cd.seq ?_
    refine Cd.region ?_
    refine Ops.q (q_mv rfl) ?_
    refine Ops.q (q_ix (k := kk) esz_31 rfl rfl (by omega)) ?_
    refine Ops.q (q_ldO isA_3 rfl (.there (.there (.there (.there (.there (.there (.there (Pull.right (pull_get (f := rrow ns.length) hx0) F)))))))) (fm_at0 eInt_len hv rfl)) ?_
    refine Ops.q (q_asg rfl) ?_
    refine Ops.q (q_asg rfl) ?_
    refine Ops.to rfl ?_
    refine Cd.seq ?_
    refine Cd.draw rfl (by kernel_rfl) (.cons .p4 (.cons .here (.cons (.there .here) (.cons .here .nil)))) ?_
    intro F5 St6 hP7 hF8 hR9
    refine Dr.q (i := 0) hP7 rfl (by kernel_rfl) (q_ldB isA_76 rfl .here rfl) ?_
    refine Dr.q (i := 1) hP7 rfl (by kernel_rfl) (q_nck rfl) ?_
    refine Dr.q (i := 2) hP7 rfl (by kernel_rfl) (q_fa fo_130_0 rfl) ?_
    refine Dr.q (i := 3) hP7 rfl (by kernel_rfl) (q_fa fo_40_0 rfl) ?_
    refine Dr.q (i := 4) hP7 rfl (by kernel_rfl) (q_ldB isA_37 rfl (.there .here) rfl) ?_
    refine Dr.q (i := 5) hP7 rfl (by kernel_rfl) (q_mv rfl) ?_
    refine Dr.q (i := 6) hP7 rfl (by kernel_rfl) (q_ix (k := kk) esz_37 rfl rfl (by omega)) ?_
    refine Dr.q (i := 7) hP7 rfl (by kernel_rfl) (q_ldON [.int .i64 x2.lk, .int .i64 x2.leak, .int .i64 x2.bias, .int .i64 x2.th, .int .i64 x2.rk, .int .i64 x2.rs, .int .i64 x2.fl, .int .i64 x2.rest] isA_62 sz_62 rfl .p2 (fm_atN ePrm_len hx3)) ?_
    refine Dr.q (i := 8) hP7 rfl (by kernel_rfl) (q_ldB isA_76 rfl .here rfl) ?_
    refine Dr.q (i := 9) hP7 rfl (by kernel_rfl) (q_nck rfl) ?_
    refine Dr.q (i := 10) hP7 rfl (by kernel_rfl) (q_fa fo_130_3 rfl) ?_
    refine Dr.q (i := 11) hP7 rfl (by kernel_rfl) (q_ldB isA_126 rfl (.there .here) rfl) ?_
    refine Dr.q (i := 12) hP7 rfl (by kernel_rfl) (q_mv rfl) ?_
    refine Dr.q (i := 13) hP7 rfl (by kernel_rfl) (q_ix (k := kk) esz_126 rfl rfl (by omega)) ?_
    refine Dr.q (i := 14) hP7 rfl (by kernel_rfl) (q_ldON [.int .i64 s.v, .int .i64 s.rest] isA_133 sz_133 rfl .p3 (fm_atN eStt_len hsm)) ?_
    refine Dr.q (i := 15) hP7 rfl (by kernel_rfl) (q_mv rfl) ?_
    refine Dr.e2 (i := 16) (j := 21) rfl rfl (by kernel_rfl) ?_ ?_
    · refine Ops.cp en_100 rfl (fun w hs => tick_c x2 s v w) ?_
      refine Dr.back (fun _ hs => hF8 .here hs) ?_
      refine Dr.q (i := 17) hP7 rfl (by kernel_rfl) (q_mv rfl) ?_
      refine Dr.q (i := 18) hP7 rfl (by kernel_rfl) (q_ext rfl rfl) ?_
      refine Dr.q (i := 19) hP7 rfl (by kernel_rfl) (q_ext rfl rfl) ?_
      refine Dr.q (i := 20) hP7 rfl (by kernel_rfl) (q_ext rfl rfl) ?_
      refine Dr.e (i := 21) rfl (by kernel_rfl) ?_
      refine Ops.alc [.int .i64 0, .int .i64 0] zc_133 ?_
      intro b10
      refine Dr.back (fun _ hs => hF8 (.there .here) hs) ?_
      refine Dr.e (i := 22) rfl (by kernel_rfl) ?_
      refine Ops.stB [.int .i64 ((tickP x2 s v).1.v), .int .i64 ((tickP x2 s v).1.rest)] [.int .i64 ((tickP x2 s v).1.v), .int .i64 ((tickP x2 s v).1.rest)] sz_133 rfl rfl rfl (one rfl) .here rfl rfl ?_
      refine Dr.back (fun _ hs => hF8 (.there .here) hs) ?_
      refine Dr.q (i := 23) hP7 rfl (by kernel_rfl) (q_asg rfl) ?_
      refine Dr.tail 24 (by kernel_rfl) ?_
      refine Ops.sat ?_ (fun _ hs => hR9 (.there .here) hs)
      refine Ops.q (q_asg rfl) ?_
      refine Ops.to rfl ?_
      refine Cd.seq ?_
      refine Cd.draw rfl (by kernel_rfl) (.cons .here (.cons .here (.cons .p2 .nil))) ?_
      intro F11 St12 hP13 hF14 hR15
      refine Dr.q (i := 0) hP13 rfl (by kernel_rfl) (q_ldB isA_76 rfl .here rfl) ?_
      refine Dr.q (i := 1) hP13 rfl (by kernel_rfl) (q_nck rfl) ?_
      refine Dr.q (i := 2) hP13 rfl (by kernel_rfl) (q_fa fo_130_3 rfl) ?_
      refine Dr.q (i := 3) hP13 rfl (by kernel_rfl) (q_ldB isA_126 rfl (.there .here) rfl) ?_
      refine Dr.q (i := 4) hP13 rfl (by kernel_rfl) (q_mv rfl) ?_
      refine Dr.q (i := 5) hP13 rfl (by kernel_rfl) (q_ldBN [.int .i64 ((tickP x2 s v).1.v), .int .i64 ((tickP x2 s v).1.rest)] isA_133 sz_133 rfl .p2 rfl) ?_
      refine Dr.tail 6 (by kernel_rfl) ?_
      refine Ops.sat ?_ (fun _ hs => hR15 .here hs)
      refine Ops.q (q_ix (k := kk) esz_126 rfl rfl (by omega)) ?_
      refine Ops.stO [.int .i64 ((tickP x2 s v).1.v), .int .i64 ((tickP x2 s v).1.rest)] (((midS T sts kk).set kk (⟨(tickP x2 s v).1.v, (tickP x2 s v).1.rest⟩ : Stt)).flatMap eStt) sz_133 rfl rfl rfl (one rfl) .p4 (by rw [fm_length eStt_len]; simp only [List.length_cons, List.length_nil]; omega) (fm_set eStt_len (midS T sts kk) kk (⟨(tickP x2 s v).1.v, (tickP x2 s v).1.rest⟩ : Stt) (by omega)) ?_
      refine Ops.to rfl ?_
      refine Cd.seq ?_
      refine Cd.region ?_
      refine Ops.q (q_mv rfl) ?_
      refine Ops.to rfl ?_
      refine Cd.cond rfl (fun h16 => ?_) (fun h16 => ?_)
      · refine Cd.region ?_
        refine Ops.q (q_mv rfl) ?_
        refine Ops.q (q_mv rfl) ?_
        refine Ops.lit [.int .i64 (kk : Int)] el_31 zsb_3 rfl rfl ⟨by decide, by decide⟩ rfl ?_
        intro b17
        refine Ops.app (news := [.int .i64 (kk : Int)]) el_31 zsb_3 (by decide) rfl rfl (fun _ hs => hs.ownRo .here) (fun _ hs => (hs.pull .here).drop) (fun _ _ => .p7) rfl (one rfl) (by omega) (by omega) ?_
        intro a18 c19
        refine Ops.q (q_asg rfl) ?_
        refine Ops.to rfl ?_
        refine Cd.region ?_
        refine Ops.q (q_ar rfl rfl (a_inc (by omega))) ?_
        refine Ops.q (q_mv rfl) ?_
        refine Ops.rnd ((kk + 1, a18, c19)) rfl (by dsimp only; exact (by omega)) (by dsimp only; omega) ⟨rfl, rfl, (by rw [fireI_take ht, if_pos h16, List.length_append]; rfl), rfl, rfl, rfl, rfl, trivial⟩ (fun _ hs => by have h1 := ((((((((hs.pull .p7).pull .p7).pull .p2).pull .p7).pull .p6).pull .p7).pull .p6).pull .p7).drop; dsimp only; rw [fireI_take ht, if_pos h16, fm_app, List.length_append, ← midS_set ht (by omega)]; exact h1) 
      · refine Cd.skipTo rfl ?_
        refine Cd.region ?_
        refine Ops.q (q_ar rfl rfl (a_inc (by omega))) ?_
        refine Ops.q (q_mv rfl) ?_
        refine Ops.rnd ((kk + 1, oa, oc)) rfl (by dsimp only; exact (by omega)) (by dsimp only; omega) ⟨rfl, rfl, (by rw [fireI_take ht, if_neg (by simp [h16]), List.append_nil]; rfl), rfl, rfl, rfl, rfl, trivial⟩ (fun _ hs => by have h1 := ((((((((hs.pull .p7).pull .p7).pull .p2).pull .p7).pull .p6).pull .p7).pull .p6).pull .p7).drop; dsimp only; rw [fireI_take ht, if_neg (by simp [h16]), List.append_nil, ← midS_set ht (by omega)]; exact h1) 
    · refine Ops.alc [.int .i64 0, .int .i64 0] zc_133 ?_
      intro b20
      refine Dr.back (fun _ hs => hF8 (.there .here) hs) ?_
      refine Dr.e (i := 16) rfl (by kernel_rfl) ?_
      refine Ops.cp en_100 rfl (fun w hs => tick_c x2 s v w) ?_
      refine Dr.back (fun _ hs => hF8 (.there .here) hs) ?_
      refine Dr.q (i := 17) hP7 rfl (by kernel_rfl) (q_mv rfl) ?_
      refine Dr.q (i := 18) hP7 rfl (by kernel_rfl) (q_ext rfl rfl) ?_
      refine Dr.q (i := 19) hP7 rfl (by kernel_rfl) (q_ext rfl rfl) ?_
      refine Dr.q (i := 20) hP7 rfl (by kernel_rfl) (q_ext rfl rfl) ?_
      refine Dr.e (i := 22) rfl (by kernel_rfl) ?_
      refine Ops.stB [.int .i64 ((tickP x2 s v).1.v), .int .i64 ((tickP x2 s v).1.rest)] [.int .i64 ((tickP x2 s v).1.v), .int .i64 ((tickP x2 s v).1.rest)] sz_133 rfl rfl rfl (one rfl) .here rfl rfl ?_
      refine Dr.back (fun _ hs => hF8 (.there .here) hs) ?_
      refine Dr.q (i := 23) hP7 rfl (by kernel_rfl) (q_asg rfl) ?_
      refine Dr.tail 24 (by kernel_rfl) ?_
      refine Ops.sat ?_ (fun _ hs => hR9 (.there .here) hs)
      refine Ops.q (q_asg rfl) ?_
      refine Ops.to rfl ?_
      refine Cd.seq ?_
      refine Cd.draw rfl (by kernel_rfl) (.cons .here (.cons .here (.cons .p2 .nil))) ?_
      intro F21 St22 hP23 hF24 hR25
      refine Dr.q (i := 0) hP23 rfl (by kernel_rfl) (q_ldB isA_76 rfl .here rfl) ?_
      refine Dr.q (i := 1) hP23 rfl (by kernel_rfl) (q_nck rfl) ?_
      refine Dr.q (i := 2) hP23 rfl (by kernel_rfl) (q_fa fo_130_3 rfl) ?_
      refine Dr.q (i := 3) hP23 rfl (by kernel_rfl) (q_ldB isA_126 rfl (.there .here) rfl) ?_
      refine Dr.q (i := 4) hP23 rfl (by kernel_rfl) (q_mv rfl) ?_
      refine Dr.q (i := 5) hP23 rfl (by kernel_rfl) (q_ldBN [.int .i64 ((tickP x2 s v).1.v), .int .i64 ((tickP x2 s v).1.rest)] isA_133 sz_133 rfl .p2 rfl) ?_
      refine Dr.tail 6 (by kernel_rfl) ?_
      refine Ops.sat ?_ (fun _ hs => hR25 .here hs)
      refine Ops.q (q_ix (k := kk) esz_126 rfl rfl (by omega)) ?_
      refine Ops.stO [.int .i64 ((tickP x2 s v).1.v), .int .i64 ((tickP x2 s v).1.rest)] (((midS T sts kk).set kk (⟨(tickP x2 s v).1.v, (tickP x2 s v).1.rest⟩ : Stt)).flatMap eStt) sz_133 rfl rfl rfl (one rfl) .p4 (by rw [fm_length eStt_len]; simp only [List.length_cons, List.length_nil]; omega) (fm_set eStt_len (midS T sts kk) kk (⟨(tickP x2 s v).1.v, (tickP x2 s v).1.rest⟩ : Stt) (by omega)) ?_
      refine Ops.to rfl ?_
      refine Cd.seq ?_
      refine Cd.region ?_
      refine Ops.q (q_mv rfl) ?_
      refine Ops.to rfl ?_
      refine Cd.cond rfl (fun h26 => ?_) (fun h26 => ?_)
      · refine Cd.region ?_
        refine Ops.q (q_mv rfl) ?_
        refine Ops.q (q_mv rfl) ?_
        refine Ops.lit [.int .i64 (kk : Int)] el_31 zsb_3 rfl rfl ⟨by decide, by decide⟩ rfl ?_
        intro b27
        refine Ops.app (news := [.int .i64 (kk : Int)]) el_31 zsb_3 (by decide) rfl rfl (fun _ hs => hs.ownRo .here) (fun _ hs => (hs.pull .here).drop) (fun _ _ => .p7) rfl (one rfl) (by omega) (by omega) ?_
        intro a28 c29
        refine Ops.q (q_asg rfl) ?_
        refine Ops.to rfl ?_
        refine Cd.region ?_
        refine Ops.q (q_ar rfl rfl (a_inc (by omega))) ?_
        refine Ops.q (q_mv rfl) ?_
        refine Ops.rnd ((kk + 1, a28, c29)) rfl (by dsimp only; exact (by omega)) (by dsimp only; omega) ⟨rfl, rfl, (by rw [fireI_take ht, if_pos h26, List.length_append]; rfl), rfl, rfl, rfl, rfl, trivial⟩ (fun _ hs => by have h1 := ((((((((hs.pull .p7).pull .p7).pull .p2).pull .p7).pull .p6).pull .p7).pull .p6).pull .p7).drop; dsimp only; rw [fireI_take ht, if_pos h26, fm_app, List.length_append, ← midS_set ht (by omega)]; exact h1) 
      · refine Cd.skipTo rfl ?_
        refine Cd.region ?_
        refine Ops.q (q_ar rfl rfl (a_inc (by omega))) ?_
        refine Ops.q (q_mv rfl) ?_
        refine Ops.rnd ((kk + 1, oa, oc)) rfl (by dsimp only; exact (by omega)) (by dsimp only; omega) ⟨rfl, rfl, (by rw [fireI_take ht, if_neg (by simp [h26]), List.append_nil]; rfl), rfl, rfl, rfl, rfl, trivial⟩ (fun _ hs => by have h1 := ((((((((hs.pull .p7).pull .p7).pull .p2).pull .p7).pull .p6).pull .p7).pull .p6).pull .p7).drop; dsimp only; rw [fireI_take ht, if_neg (by simp [h26]), List.append_nil, ← midS_set ht (by omega)]; exact h1) 
  · refine Ops.q (q_cmp rfl rfl (c_nlt (by omega))) ?_
    refine Ops.to rfl ?_
    refine Cd.seq ?_
    refine Cd.cond_f rfl ?_
    refine Cd.exitTo rfl ?_
    refine Cd.seq ?_
    refine Cd.region ?_
    refine Ops.q (q_mv rfl) ?_
    have hkn : kk = ns.length := by omega
    refine Ops.clr2 el_31 zsb_3 rfl (one rfl) (rep_int _) (.there (.there (.there (.there (.there (.there (.there (Upd.right (upd_get (f := rrow ns.length) (e' := (x0.1, List.replicate ns.length 0)) hx0) F)))))))) ?_
    refine Ops.to rfl ?_
    refine Cd.seq ?_
    refine Cd.seq ?_
    have hTk : T.take kk = T := List.take_of_length_le (by omega)
    have hmk : midS T sts kk = T.map (·.1) := by unfold midS; rw [hTk, List.drop_of_length_le (by omega), List.append_nil]
    have hcl : clrQ now ns.length q = q.set (now % 16) (x0.1, List.replicate ns.length 0) := modify_set hx0
    rw [hTk]
    refine Cd.sat (A' := blk S 130 ([.slice na ns.length nc, .int .i64 ip, .slice sa m sc, .map (some M), .int .i64 (now : Int), .slice (some ⟨B, 0, none⟩) ns.length ns.length] ++ (clrQ now ns.length q).map (rcell ns.length)) :: row (some ⟨B, 0, none⟩) ns.length 133 2 ns.length ((T.map (·.1)).flatMap eStt) :: row na nc 62 8 ns.length (ns.flatMap ePrm) :: rd (wφ M E) :: blk b1 76 [.pointer (some ⟨S, 0, none⟩)] :: row ia ic 3 1 ids.length (ids.flatMap eInt) :: row oa oc 3 1 ((fireI 0 T).length) ((fireI 0 T).flatMap eInt) :: (F ++ (clrQ now ns.length q).map (rrow ns.length))) ?_ (fun _ hs => by have h1 := (((((((hs.pull .p6).pull .p6).pull .p6).pull .p6).pull .p6).pull .p6).pull .p6); rw [hmk, ← hcl] at h1; exact sim_cells (fun _ => rfl) h1)
    refine Cd.region ?_
    refine Ops.q (q_ldB isA_76 rfl .p4 rfl) ?_
    refine Ops.q (q_nck rfl) ?_
    refine Ops.q (q_fa fo_130_1 rfl) ?_
    refine Ops.q (q_ldB isA_125 rfl .here rfl) ?_
    refine Ops.q (q_mv rfl) ?_
    refine Ops.q (q_mv rfl) ?_
    refine Ops.cl (α := Nat × Nat × Nat) (v := fun x => .func (.func 122) #[] #[.pointer (some ⟨x.1, 0, none⟩), .pointer (some ⟨x.2.1, 0, none⟩), .pointer (some ⟨x.2.2, 0, none⟩)]) (B := fun x => [blk x.1 125 [.map (some M)], blk x.2.1 31 [.slice oa ((fireI 0 T).length) oc], blk x.2.2 31 [.slice ia ids.length ic]]) en_101 rfl (fun w hs => from101_c M _ _ _ _ _ _ w) ?_
    rintro ⟨mb, fb, ib⟩
    refine Ops.to rfl ?_
    refine Cd.block ?_
    refine Cd.range2 (k := 122) (caps := [.pointer (some ⟨mb, 0, none⟩), .pointer (some ⟨fb, 0, none⟩), .pointer (some ⟨ib, 0, none⟩)]) (enc := argS) (xs := (metS ss (fireI 0 T) ids)) (X := [blk mb 125 [.map (some M)], blk fb 31 [.slice oa ((fireI 0 T).length) oc], blk ib 31 [.slice ia ids.length ic], row oa oc 3 1 ((fireI 0 T).length) ((fireI 0 T).flatMap eInt), row ia ic 3 1 ids.length (ids.flatMap eInt), rd (wφ M E)]) (β := Nat) (fun pre : List Syn => blk S 130 ([.slice na ns.length nc, .int .i64 ip, .slice sa m sc, .map (some M), .int .i64 (now : Int), .slice (some ⟨B, 0, none⟩) ns.length ns.length] ++ (pre.foldl (addQ now) (clrQ now ns.length q)).map (rcell ns.length)) :: row (some ⟨B, 0, none⟩) ns.length 133 2 ns.length ((T.map (·.1)).flatMap eStt) :: row na nc 62 8 ns.length (ns.flatMap ePrm) :: blk b1 76 [.pointer (some ⟨S, 0, none⟩)] :: (F ++ (pre.foldl (addQ now) (clrQ now ns.length q)).map (rrow ns.length))) (fun x (b : Nat) => [(12, .pointer (some ⟨b, 0, none⟩)), (2, .pointer (some ⟨b1, 0, none⟩))]) (fun pre x (b : Nat) => blk b 109 (eSyn x) :: blk S 130 ([.slice na ns.length nc, .int .i64 ip, .slice sa m sc, .map (some M), .int .i64 (now : Int), .slice (some ⟨B, 0, none⟩) ns.length ns.length] ++ (pre.foldl (addQ now) (clrQ now ns.length q)).map (rcell ns.length)) :: row (some ⟨B, 0, none⟩) ns.length 133 2 ns.length ((T.map (·.1)).flatMap eStt) :: row na nc 62 8 ns.length (ns.flatMap ePrm) :: blk b1 76 [.pointer (some ⟨S, 0, none⟩)] :: (F ++ (pre.foldl (addQ now) (clrQ now ns.length q)).map (rrow ns.length)))
      (iter117 mb fb ib M E ss hW hlen _ _ (fireI 0 T) ia ic ids hids (by omega) (by omega) w0) en_122 rfl (fun _ hs => toEnd6 (((((((((((hs.pull .p6).pull .p8).pull .p9).pull .p5).pull .p5).pull .p5).pull .p9).pull .p9).pull .p9).pull .p9))) rfl (fun _ => rfl) ?_ ?_ rfl ?_
    · intro l Y pre x hpost
      refine Cd.region ?_
      refine Ops.alc [.int .i64 0, .int .i64 0, .int .i64 0, .int .i64 0] zc_109 ?_
      intro b30
      refine Ops.stB [.int .i64 x.src, .int .i64 x.dst, .int .i64 x.wt, .int .i64 x.dl] [.int .i64 x.src, .int .i64 x.dst, .int .i64 x.wt, .int .i64 x.dl] sz_109 rfl rfl rfl (one rfl) .here rfl rfl ?_
      exact Ops.mid b30 ⟨rfl, rfl, trivial⟩ (fun _ hs => hs)
    · intro l Y pre x b hpost
      obtain ⟨post, hpost⟩ := hpost
      have hxm : x ∈ ss := metS_mem (fired := fireI 0 T) (ids := ids) (by rw [← hpost]; simp)
      obtain ⟨hdst, hdl⟩ := hss x hxm
      have hqp : ringOK ns.length (pre.foldl (addQ now) (clrQ now ns.length q)) := (ringOK.clr hq).addAll pre
      obtain ⟨j1, hj1⟩ : ∃ j : Nat, ((now : Int) + x.dl) % 16 = (j : Int) := ⟨(((now : Int) + x.dl) % 16).toNat, by omega⟩
      have hj2 : j1 < 16 := by omega
      obtain ⟨dn, hdn⟩ : ∃ j : Nat, x.dst = (j : Int) := ⟨x.dst.toNat, by unfold wi at hdst; omega⟩
      have hdn2 : dn < ns.length := by unfold wi at hdst; omega
      obtain ⟨x1, hx1⟩ : ∃ y, (pre.foldl (addQ now) (clrQ now ns.length q))[j1]? = some y := ⟨_, List.getElem?_eq_getElem (by have := hqp.1; omega)⟩
      have hx1l : x1.2.length = ns.length := hqp.2 x1 (List.mem_iff_getElem?.2 ⟨j1, hx1⟩)
      obtain ⟨v, hv⟩ : ∃ v, x1.2[dn]? = some v := ⟨_, List.getElem?_eq_getElem (by omega)⟩
      have hadd := addQ_set hj1 hdn hx1 hv
      refine Cd.pull (.there (.there (.there (.there (.there (Pull.left (Pull.right (pull_get (f := rrow ns.length) hx1) F) Y)))))) ?_
      refine Cd.block ?_
      refine Cd.draw rfl (by kernel_rfl) (.cons .here (.cons .here (.cons .p3 .nil))) ?_
      intro F31 St32 hP33 hF34 hR35
      refine Dr.q (i := 0) hP33 rfl (by kernel_rfl) (q_ldB isA_76 rfl .p2 rfl) ?_
      refine Dr.q (i := 1) hP33 rfl (by kernel_rfl) (q_fa fo_109_3 rfl) ?_
      refine Dr.q (i := 2) hP33 rfl (by kernel_rfl) (q_ldB isA_3 rfl (.there .here) rfl) ?_
      refine Dr.q (i := 4) hP33 rfl (by kernel_rfl) (q_fa fo_109_1 rfl) ?_
      refine Dr.q (i := 5) hP33 rfl (by kernel_rfl) (q_ldB isA_3 rfl (.there .here) rfl) ?_
      refine Dr.q (i := 8) hP33 rfl (by kernel_rfl) (q_fa fo_109_2 rfl) ?_
      refine Dr.q (i := 9) hP33 rfl (by kernel_rfl) (q_ldB isA_3 rfl (.there .here) rfl) ?_
      refine Dr.e (i := 3) rfl (by kernel_rfl) ?_
      refine Ops.cm (α := Unit) (v := fun _ => rcell ns.length x1) (A' := fun _ => blk S 130 ([.slice na ns.length nc, .int .i64 ip, .slice sa m sc, .map (some M), .int .i64 (now : Int), .slice (some ⟨B, 0, none⟩) ns.length ns.length] ++ (pre.foldl (addQ now) (clrQ now ns.length q)).map (rcell ns.length)) :: F31 :: row (some ⟨B, 0, none⟩) ns.length 133 2 ns.length ((T.map (·.1)).flatMap eStt) :: row na nc 62 8 ns.length (ns.flatMap ePrm) :: ((F ++ ((pre.foldl (addQ now) (clrQ now ns.length q)).eraseIdx j1).map (rrow ns.length)) ++ Y)) en_99 rfl (fun w hs => (row_c S _ _ _ _ ns ip m M now B (pre.foldl (addQ now) (clrQ now ns.length q)) (F31 :: row (some ⟨B, 0, none⟩) ns.length 133 2 ns.length ((T.map (·.1)).flatMap eStt) :: row na nc 62 8 ns.length (ns.flatMap ePrm) :: ((F ++ ((pre.foldl (addQ now) (clrQ now ns.length q)).eraseIdx j1).map (rrow ns.length)) ++ Y)) x.dl j1 x1 w0 w hj1 hj2 hx1 (by unfold wi at hdl; omega) (by omega) (hs.pull (.there .here))).mono fun e w' h => ⟨(), h⟩) ?_
      intro _
      refine Dr.back (fun _ hs => hF34 (.there .here) hs) ?_
      refine Dr.q (i := 6) hP33 rfl (by kernel_rfl) (q_ix (k := dn) esz_31 rfl (show some (Value.int .i64 x.dst) = some (.int .i64 (dn : Int)) from by rw [hdn]) hdn2) ?_
      refine Dr.q (i := 7) hP33 rfl (by kernel_rfl) (q_ldO isA_3 rfl .here (fm_at0 eInt_len hv rfl)) ?_
      refine Dr.q (i := 10) hP33 rfl (by kernel_rfl) (q_ar rfl rfl (rfl)) ?_
      refine Dr.tail 11 (by kernel_rfl) ?_
      refine Ops.sat ?_ (fun _ hs => hR35 (.there .here) hs)
      refine Ops.q (q_ix (k := dn) esz_31 rfl (show some (Value.int .i64 x.dst) = some (.int .i64 (dn : Int)) from by rw [hdn]) hdn2) ?_
      refine Ops.stO [.int .i64 (IntKind.i64.wrap (v + x.wt))] ((x1.2.set dn (IntKind.i64.wrap (v + x.wt))).flatMap eInt) sz_3 rfl rfl rfl (one rfl) .here (by rw [fm_length eInt_len]; simp only [List.length_cons, List.length_nil]; omega) (fm_set eInt_len x1.2 dn (IntKind.i64.wrap (v + x.wt)) (by omega)) ?_
      refine Ops.endQ (by with_reducible repeat (first | exact nq_end | apply nq_nq | apply xq_then | apply xq_block | apply nq_block)) (fun _ hs => ?_)
      have h1 := ((((((hs.pull .p2).pull .p5).pull .p5).pull .p5).pull .p4).pull .p5).drop
      have h2 := Sat.push (a := rrow ns.length (x1.1, x1.2.set dn (IntKind.i64.wrap (v + x.wt)))) h1 (.there (.there (.there (.there (Pull.left (Pull.right (pull_set (f := rrow ns.length) hx1) F) Y)))))
      rw [← hadd] at h2
      rw [foldl_snoc]
      exact sim_cells (fun _ => rfl) h2
    · intro d
      refine Cd.seq ?_
      refine Cd.region ?_
      refine Ops.q (q_ldB isA_76 rfl .p4 rfl) ?_
      refine Ops.q (q_nck rfl) ?_
      refine Ops.q (q_fa fo_130_2 rfl) ?_
      refine Ops.q (q_ldB isA_3 rfl (.there .here) rfl) ?_
      refine Ops.q (q_ar rfl rfl (a_inc (by omega))) ?_
      refine Ops.q (q_nck rfl) ?_
      refine Ops.q (q_fa fo_130_2 rfl) ?_
      refine Ops.stB [.int .i64 ((now + 1 : Nat) : Int)] ([.slice na ns.length nc, .int .i64 ip, .slice sa m sc, .map (some M), .int .i64 ((now + 1 : Nat) : Int), .slice (some ⟨B, 0, none⟩) ns.length ns.length] ++ ((metS ss (fireI 0 T) ids).foldl (addQ now) (clrQ now ns.length q)).map (rcell ns.length)) sz_3 rfl rfl rfl (one rfl) (.there .here) (ble_ok (by simp)) rfl ?_
      refine Ops.to rfl ?_
      refine Cd.seq ?_
      refine Cd.region ?_
      refine Ops.q (q_mv rfl) ?_
      refine Ops.q (q_asg rfl) ?_
      refine Ops.to rfl ?_
      refine Cd.rtM (fn := Tryz.f68) [.slice oa ((fireI 0 T).length) oc] (by with_reducible repeat (first | exact rqM_here | apply rq_then | apply rq_block)) rfl ⟨rfl, trivial⟩ .here ?_
      intro w' hs'
      have h1 := ((((hs'.pull .p2).pull .p2).pull .p2).pull .p3).drop
      exact ⟨(oa, oc), rfl, fromEnd6 h1⟩
end Go.Proofs.YtilcdghliigngaaGreatDoor
namespace Go.Proofs.YtilcdghliigngaaGreatDoor
open Go.RowKit Go.Proofs.YtilcdghliigngaaGreatDoorGl Go.Proofs.YtilcdghliigngaaGreatDoorPm
set_option linter.unusedVariables false
set_option linter.unusedSimpArgs false
def addR (now : Nat) (q : List (List Int)) (s : Syn) : List (List Int) := q.modify (((now : Int) + s.dl) % 16).toNat fun x => x.modify s.dst.toNat fun v => IntKind.i64.wrap (v + s.wt)
def stepR (ns : List Prm) (ss : List Syn) (now : Nat) (sts : List Stt) (ring : List (List Int)) (ids : List Int) : List Stt × List (List Int) × List Int :=
  let T := tickAll ns sts ((ring[now % 16]?).getD [])
  (T.map (·.1), (metS ss (fireI 0 T) ids).foldl (addR now) (ring.modify (now % 16) fun _ => List.replicate ns.length 0), fireI 0 T)
def runP (ns : List Prm) (ss : List Syn) : Nat → Nat → List Stt → List (List Int) → List Evt → List Evt → Option (List Evt)
  | 0, _, _, _, _, out => some out
  | f + 1, now, sts, ring, evs, out =>
    let r := stepR ns ss now sts ring ((evs.takeWhile (fun e => e.tick == (now : Int))).map (·.id))
    if 65536 < (out ++ r.2.2.map (fun i => (⟨(now : Int), i⟩ : Evt))).length then none
    else runP ns ss f (now + 1) r.1 r.2.1 (evs.dropWhile (fun e => e.tick == (now : Int))) (out ++ r.2.2.map (fun i => (⟨(now : Int), i⟩ : Evt)))
def runN (N : NetP) (evs : List Evt) (t : Nat) : Option (List Evt) := runP N.ns N.ss t 0 (List.replicate N.ns.length ⟨0, 0⟩) (List.replicate 16 (List.replicate N.ns.length 0)) evs []
abbrev idsAt (es : List Evt) (k : Nat) : List Int := (es.takeWhile (fun e => e.tick == (k : Int))).map (·.id)
abbrev restAt (es : List Evt) (k : Nat) : List Evt := es.dropWhile (fun e => e.tick == (k : Int))
theorem out_app {F : List Int} {j : Nat} {x : Int} (hx : F[j]? = some x) (out : List Evt) (f : Int → Evt) : out ++ (F.take (j + 1)).map f = (out ++ (F.take j).map f) ++ [f x] := by
  rw [List.take_add_one, hx, List.map_append, ← List.append_assoc]; rfl
theorem out_len {F : List Int} {j : Nat} {x : Int} (hx : F[j]? = some x) (out : List Evt) (f : Int → Evt) : (out ++ (F.take (j + 1)).map f).length = (out ++ (F.take j).map f).length + 1 := by
  rw [out_app hx, List.length_append]; rfl
theorem addR_map (now : Nat) (q : List (Nat × List Int)) (s : Syn) : (addQ now q s).map (·.2) = addR now (q.map (·.2)) s := by
  unfold addQ addR
  apply List.ext_getElem?
  intro j
  simp only [List.getElem?_map, List.getElem?_modify]
  by_cases hj : (((now : Int) + s.dl) % 16).toNat = j
  · subst hj; cases q[(((now : Int) + s.dl) % 16).toNat]? <;> simp
  · cases q[j]? <;> simp [hj]
theorem addR_all (now : Nat) : ∀ (l : List Syn) (q : List (Nat × List Int)), (l.foldl (addQ now) q).map (·.2) = l.foldl (addR now) (q.map (·.2))
  | [], _ => rfl
  | s :: l, q => by rw [List.foldl_cons, addR_all now l, addR_map, List.foldl_cons]
theorem clrR_map (now n : Nat) (q : List (Nat × List Int)) : (clrQ now n q).map (·.2) = (q.map (·.2)).modify (now % 16) fun _ => List.replicate n 0 := by
  unfold clrQ
  apply List.ext_getElem?
  intro j
  simp only [List.getElem?_map, List.getElem?_modify]
  by_cases hj : now % 16 = j
  · subst hj; cases q[now % 16]? <;> simp
  · cases q[j]? <;> simp [hj]
theorem stepR_eq {ns : List Prm} {ss : List Syn} {now : Nat} {sts : List Stt} {q : List (Nat × List Int)} {ids : List Int} {x0 : Nat × List Int} {T : List (Stt × Bool)} (hx0 : q[now % 16]? = some x0) (hT : T = tickAll ns sts x0.2) :
    stepR ns ss now sts (q.map (·.2)) ids = (T.map (·.1), ((metS ss (fireI 0 T) ids).foldl (addQ now) (clrQ now ns.length q)).map (·.2), fireI 0 T) := by
  unfold stepR
  rw [List.getElem?_map, hx0, addR_all, clrR_map]
  simp only [Option.map_some, Option.getD_some, ← hT]
theorem dropWhile_mem {α : Type} {p : α → Bool} : ∀ {xs : List α} {x : α}, x ∈ xs.dropWhile p → x ∈ xs
  | [], _, h => h
  | y :: ys, x, h => by
    rw [List.dropWhile_cons] at h
    split at h
    · exact .tail _ (dropWhile_mem h)
    · exact h
theorem takeWhile_mem {α : Type} {p : α → Bool} : ∀ {xs : List α} {x : α}, x ∈ xs.takeWhile p → x ∈ xs
  | [], _, h => h
  | y :: ys, x, h => by
    rw [List.takeWhile_cons] at h
    split at h
    · rcases List.mem_cons.1 h with rfl | h
      · exact .head _
      · exact .tail _ (takeWhile_mem h)
    · cases h
theorem takeWhile_le {α : Type} (p : α → Bool) : ∀ (xs : List α), (xs.takeWhile p).length ≤ xs.length
  | [] => by simp
  | y :: ys => by
    rw [List.takeWhile_cons]
    split
    · have := takeWhile_le p ys; simp; omega
    · simp
theorem dropWhile_le {α : Type} (p : α → Bool) : ∀ (xs : List α), (xs.dropWhile p).length ≤ xs.length
  | [] => by simp
  | y :: ys => by
    rw [List.dropWhile_cons]
    split
    · have := dropWhile_le p ys; simp; omega
    · simp
theorem ring0 {q : List (Nat × List Int)} {n : Nat} (h : q.length = 16) (h2 : ∀ x ∈ q, x.2 = List.replicate n 0) : q.map (·.2) = List.replicate 16 (List.replicate n 0) := by
  rw [← h]
  clear h
  induction q with
  | nil => rfl
  | cons x q ih => rw [List.map_cons, h2 x (.head _), ih (fun y hy => h2 y (.tail _ hy))]; rfl
theorem dropTail {w0 w : World} {B A : List Atom} (h : Sat w0 w (B ++ A)) : Sat w0 w B := by
  obtain ⟨hB, T, hs, ht⟩ := h
  obtain ⟨S, U, h1, _, _, h4⟩ := Sats.split hs
  exact ⟨hB, S, h1, fun k hk => ht k ((h4 k).2 (.inl hk))⟩
theorem run_c (na : Option Addr) (nc : Nat) (sa : Option Addr) (sc : Nat) (ns : List Prm) (ip : Int) (ss : List Syn) (ea : Option Addr) (ec : Nat) (evs : List Evt) (t : Int) (w : World) (hN : RoL w na ePrm ns) (hS : RoL w sa eSyn ss) (hE : RoL w ea eEvt evs) (hec : evs.length ≤ ec) :
    Calls Tryz.prog 93 [.agg [.slice na ns.length nc, .int .i64 ip, .slice sa ss.length sc].toArray, .slice ea evs.length ec, .int .i64 t].toArray w fun e w' =>
      if preparedE ⟨ns, ip, ss⟩ evs t 10000 ≠ 0 then e = .returned (.tuple #[.slice none 0 0, .int .i64 (preparedE ⟨ns, ip, ss⟩ evs t 10000)]) ∧ Sat w w' []
      else match runN ⟨ns, ip, ss⟩ evs t.toNat with
        | none => e = .returned (.tuple #[.slice none 0 0, .int .i64 8]) ∧ Sat w w' []
        | some out => ∃ p : Option Addr × Nat, e = .returned (.tuple #[.slice p.1 out.length p.2, .int .i64 0]) ∧ Sat w w' [row p.1 p.2 70 2 out.length (out.flatMap eEvt)] := by
  refine fstart Tryz.func93 rfl rfl (Sat.nil w) ?_
  refine Cd.seq ?_
  refine Cd.region ?_
  refine Ops.box [.slice na ns.length nc, .int .i64 ip, .slice sa ss.length sc] rfl rfl ?_
  intro b1
  refine Ops.q (q_asg rfl) ?_
  refine Ops.q (q_asg rfl) ?_
  refine Ops.to rfl ?_
  refine Cd.seq ?_
  refine Cd.seq ?_
  refine Cd.region ?_
  refine Ops.q (q_ldBN [.slice na ns.length nc, .int .i64 ip, .slice sa ss.length sc] isA_40 sz_40 rfl .here rfl) ?_
  refine Ops.q (q_mv rfl) ?_
  refine Ops.q (q_mv rfl) ?_
  refine Ops.cp en_118 rfl (fun w hs => prepared_c _ _ _ _ ns ip ss _ _ evs t 10000 w (by omega) (hN.later hs.below) (hS.later hs.below) (hE.later hs.below)) ?_
  refine Ops.q (q_asg rfl) ?_
  refine Ops.to rfl ?_
  refine Cd.seq ?_
  refine Cd.region ?_
  refine Ops.q (q_mv rfl) ?_
  by_cases h2 : preparedE ⟨ns, ip, ss⟩ evs t 10000 = 0
  · refine Ops.q (q_cmp rfl rfl (c_nne h2)) ?_
    have hp : preparedE ⟨ns, ip, ss⟩ evs t 10000 = 0 := h2
    have hpo := prepared_ok hp
    obtain ⟨hn0, hn1, hm1, hip0, hip1, hnc, hsc⟩ := netCheck_ok hpo.1
    have hss : ∀ s ∈ ss, wi s.dst 0 ((ns.length : Int) - 1) ∧ wi s.dl 1 16 := fun s hs => ⟨(synE_ok (hsc s hs)).2.1, (synE_ok (hsc s hs)).2.2.2⟩
    obtain ⟨tn, rfl⟩ : ∃ j : Nat, t = (j : Int) := ⟨t.toNat, by have := hpo.2.1; unfold wi at this; omega⟩
    have htn : tn ≤ 10000 := by have := hpo.2.1; unfold wi at this; omega
    obtain ⟨nx, hnx⟩ : ∃ x, ns[0]? = some x := ⟨_, List.getElem?_eq_getElem hn0⟩
    obtain ⟨nb, no, rfl⟩ := RoL.pos hN ePrm_len hnx
    refine Ops.to rfl ?_
    refine Cd.cond_f rfl ?_
    refine Cd.skipTo rfl ?_
    refine Cd.seq ?_
    refine Cd.region ?_
    refine Ops.q (q_ldBN [.slice (some ⟨nb, no, none⟩) ns.length nc, .int .i64 ip, .slice sa ss.length sc] isA_40 sz_40 rfl .here rfl) ?_
    refine Ops.cl (α := {x : Nat × Option Addr × Nat × Nat × List WEnt × Nat × List (Nat × List Int) // WI x.2.2.2.2.1 ss ∧ x.2.2.2.2.2.2.length = 16 ∧ ∀ y ∈ x.2.2.2.2.2.2, y.2 = List.replicate ns.length 0}) (v := fun x => .pointer (some ⟨x.1.1, 0, none⟩)) (B := fun x => simA x.1.1 x.1.2.1 x.1.2.2.1 sa sc ns ip ss.length x.1.2.2.2.1 x.1.2.2.2.2.1 0 x.1.2.2.2.2.2.1 (List.replicate ns.length ⟨0, 0⟩) x.1.2.2.2.2.2.2 []) en_63 rfl (fun w hs => (start_c _ _ _ _ _ ns ip ss w (hN.later hs.below) (hS.later hs.below) (by omega) (by omega)).mono fun e w' h => by obtain ⟨S, na, nc', M, E, B, q, h1, h2, h3, h4, h5⟩ := h; exact ⟨⟨(S, na, nc', M, E, B, q), h2, h3, h4⟩, h1, h5⟩) ?_
    rintro ⟨⟨S, ma, mc, M, E, B, q0⟩, hW, hq0, hz0⟩
    dsimp only at hW hq0 hz0
    refine Ops.sat (A' := simA S ma mc sa sc ns ip ss.length M E 0 B (List.replicate ns.length ⟨0, 0⟩) q0 []) ?_ (fun _ hs => dropTail (B := simA S ma mc sa sc ns ip ss.length M E 0 B (List.replicate ns.length ⟨0, 0⟩) q0 []) hs)
    refine Ops.q (q_mv rfl) ?_
    refine Ops.q (q_bld [.slice ea evs.length ec] pls_195 zc_195 rfl rfl) ?_
    refine Ops.box [.slice ea evs.length ec] rfl rfl ?_
    intro b3
    refine Ops.q (q_asg rfl) ?_
    refine Ops.q (q_asg rfl) ?_
    refine Ops.to rfl ?_
    refine Cd.seq ?_
    refine Cd.region ?_
    refine Ops.q (q_asg rfl) ?_
    refine Ops.to rfl ?_
    refine Cd.seq ?_
    refine Cd.seq ?_
    refine Cd.region ?_
    refine Ops.q (q_mv rfl) ?_
    refine Ops.q (q_mv rfl) ?_
    refine Ops.to rfl ?_
    refine Cd.block ?_
    refine Cd.lp (σ := Nat × List Stt × List (Nat × List Int) × List Evt × List Evt × Option Addr × Nat × Option Addr × Nat) (fun s => s.1 ≤ tn ∧ s.2.1.length = ns.length ∧ ringOK ns.length s.2.2.1 ∧ RoL w s.2.2.2.2.2.1 eEvt s.2.2.2.1 ∧ s.2.2.2.1.length ≤ s.2.2.2.2.2.2.1 ∧ s.2.2.2.1.length ≤ 65536 ∧ (∀ e ∈ s.2.2.2.1, wi e.id 0 100000) ∧ s.2.2.2.2.1.length ≤ 65536 ∧ runP ns ss (tn - s.1) s.1 s.2.1 (s.2.2.1.map (·.2)) s.2.2.2.1 s.2.2.2.2.1 = runN ⟨ns, ip, ss⟩ evs tn) (fun s => [(9, .pointer (some ⟨S, 0, none⟩)), (10, .pointer (some ⟨b3, 0, none⟩)), (27, .int .i64 (tn : Int)), (11, .slice s.2.2.2.2.2.2.2.1 s.2.2.2.2.1.length s.2.2.2.2.2.2.2.2), (28, .int .i64 (s.1 : Int))]) (fun s => blk S 130 ([.slice ma ns.length mc, .int .i64 ip, .slice sa ss.length sc, .map (some M), .int .i64 (s.1 : Int), .slice (some ⟨B, 0, none⟩) ns.length ns.length] ++ s.2.2.1.map (rcell ns.length)) :: row (some ⟨B, 0, none⟩) ns.length 133 2 ns.length (s.2.1.flatMap eStt) :: row ma mc 62 8 ns.length (ns.flatMap ePrm) :: rd (wφ M E) :: blk b3 195 [.slice s.2.2.2.2.2.1 s.2.2.2.1.length s.2.2.2.2.2.2.1] :: row s.2.2.2.2.2.2.2.1 s.2.2.2.2.2.2.2.2 70 2 s.2.2.2.2.1.length (s.2.2.2.2.1.flatMap eEvt) :: (s.2.2.1.map (rrow ns.length))) (fun s => tn - s.1) (0, List.replicate ns.length ⟨0, 0⟩, q0, evs, [], ea, ec, none, 0) ⟨Nat.zero_le _, by simp, ⟨hq0, fun x hx => by rw [hz0 x hx]; simp⟩, hE, hec, hpo.2.2.1, fun e he => by have := (hpo.2.2.2 e he).2; unfold wi at this ⊢; omega, by simp, by unfold runN; rw [ring0 hq0 hz0]; rfl⟩ ⟨rfl, rfl, rfl, rfl, rfl, trivial⟩ (fun _ hs => by have h1 := (((((hs.pull .here).pull .p4).pull .p4).pull .p4).pull .p4); have h2 := h1.nilRow 70 2; exact Sat.push h2 .p5) ?_
    rintro ⟨kk, sts, q, es, out, ta, tc, oa, oc⟩ hI
    dsimp only at hI
    change Cd _ _ _ _ _ _ _ [(9, .pointer (some ⟨S, 0, none⟩)), (10, .pointer (some ⟨b3, 0, none⟩)), (27, .int .i64 (tn : Int)), (11, .slice oa out.length oc), (28, .int .i64 (kk : Int))] (blk S 130 ([.slice ma ns.length mc, .int .i64 ip, .slice sa ss.length sc, .map (some M), .int .i64 (kk : Int), .slice (some ⟨B, 0, none⟩) ns.length ns.length] ++ q.map (rcell ns.length)) :: row (some ⟨B, 0, none⟩) ns.length 133 2 ns.length (sts.flatMap eStt) :: row ma mc 62 8 ns.length (ns.flatMap ePrm) :: rd (wφ M E) :: blk b3 195 [.slice ta es.length tc] :: row oa oc 70 2 out.length (out.flatMap eEvt) :: (q.map (rrow ns.length)))
    refine Cd.seq ?_
    refine Cd.region ?_
    by_cases hk0 : (kk : Int) < (tn : Int)
    · refine Ops.q (q_cmp rfl rfl (c_lt hk0)) ?_
      obtain ⟨hk1, hstl, hqo, hes, hec1, hel, hei, hol, hrun⟩ := hI
      obtain ⟨x0, hx0⟩ : ∃ x, q[kk % 16]? = some x := ⟨_, List.getElem?_eq_getElem (by have := hqo.1; omega)⟩
      obtain ⟨T, hT⟩ : ∃ T, T = tickAll ns sts x0.2 := ⟨_, rfl⟩
      have hx0l : x0.2.length = ns.length := hqo.2 x0 (List.mem_iff_getElem?.2 ⟨_, hx0⟩)
      have hTl : T.length = ns.length := by rw [hT]; exact tickAll_length (by omega) hx0l
      have hfl := fireI_len T 0
      have hids : ∀ i ∈ (idsAt es kk), wi i 0 100000 := by intro i hi; obtain ⟨e, he, rfl⟩ := List.mem_map.1 hi; exact hei e (takeWhile_mem he)
      have hil : (idsAt es kk).length ≤ 65536 := by rw [List.length_map]; exact Nat.le_trans (takeWhile_le _ _) hel
      have hdl : (restAt es kk).length ≤ es.length := dropWhile_le _ es
      have hstep := stepR_eq (ss := ss) (ids := (idsAt es kk)) hx0 hT
      obtain ⟨f, hf⟩ : ∃ f, tn - kk = f + 1 := ⟨tn - kk - 1, by omega⟩
      rw [hf, runP, hstep] at hrun
      dsimp only at hrun
      refine Ops.to rfl ?_
      refine Cd.seq ?_
      refine Cd.cond_t rfl ?_
      refine Cd.skipTo rfl ?_
      refine Cd.seq ?_
      refine Cd.block ?_
      refine Cd.seq ?_
      refine Cd.region ?_
      refine Ops.q (q_mv rfl) ?_
      refine Ops.q (q_asg rfl) ?_
      refine Ops.to rfl ?_
      refine Cd.seq ?_
      refine Cd.seq ?_
      refine Cd.region ?_
      refine Ops.q (q_mv rfl) ?_
      refine Ops.q (q_mv rfl) ?_
      refine Ops.q (q_mv rfl) ?_
      refine Ops.cm (α := {p : Option Addr × Nat × Option Addr × Nat // RoL w p.2.2.1 eEvt (restAt es kk) ∧ (restAt es kk).length ≤ p.2.2.2}) (v := fun p => .slice p.1.1 (idsAt es kk).length p.1.2.1) (A' := fun p => blk b3 195 [.slice p.1.2.2.1 (restAt es kk).length p.1.2.2.2] :: row p.1.1 p.1.2.1 3 1 (idsAt es kk).length ((idsAt es kk).flatMap eInt) :: blk S 130 ([.slice ma ns.length mc, .int .i64 ip, .slice sa ss.length sc, .map (some M), .int .i64 (kk : Int), .slice (some ⟨B, 0, none⟩) ns.length ns.length] ++ q.map (rcell ns.length)) :: row (some ⟨B, 0, none⟩) ns.length 133 2 ns.length (sts.flatMap eStt) :: row ma mc 62 8 ns.length (ns.flatMap ePrm) :: rd (wφ M E) :: row oa oc 70 2 out.length (out.flatMap eEvt) :: (q.map (rrow ns.length))) en_119 rfl (fun w' hs => (taker_c b3 ta tc es (kk : Int) w w' _ hes hec1 hel (hs.pull .p4)).mono fun e w' h => by obtain ⟨p, h1, h2, h3, h4⟩ := h; exact ⟨⟨p, h2, h3⟩, h1, h4⟩) ?_
      rintro ⟨⟨da, dc, ta2, tc2⟩, hes2, hec2⟩
      dsimp only at hes2 hec2
      change Ops _ _ _ _ _ _ _ _ ((34, .slice da ((idsAt es kk).length) dc) :: _) (blk b3 195 [.slice ta2 ((restAt es kk).length) tc2] :: row da dc 3 1 ((idsAt es kk).length) ((idsAt es kk).flatMap eInt) :: blk S 130 ([.slice ma ns.length mc, .int .i64 ip, .slice sa ss.length sc, .map (some M), .int .i64 (kk : Int), .slice (some ⟨B, 0, none⟩) ns.length ns.length] ++ q.map (rcell ns.length)) :: row (some ⟨B, 0, none⟩) ns.length 133 2 ns.length (sts.flatMap eStt) :: row ma mc 62 8 ns.length (ns.flatMap ePrm) :: rd (wφ M E) :: row oa oc 70 2 out.length (out.flatMap eEvt) :: (q.map (rrow ns.length)))
      refine Ops.cm (α := Option Addr × Nat) (v := fun p => .slice p.1 (fireI 0 T).length p.2) (A' := fun p => blk S 130 ([.slice ma ns.length mc, .int .i64 ip, .slice sa ss.length sc, .map (some M), .int .i64 ((kk + 1 : Nat) : Int), .slice (some ⟨B, 0, none⟩) ns.length ns.length] ++ ((metS ss (fireI 0 T) (idsAt es kk)).foldl (addQ kk) (clrQ kk ns.length q)).map (rcell ns.length)) :: row (some ⟨B, 0, none⟩) ns.length 133 2 ns.length ((T.map (·.1)).flatMap eStt) :: row ma mc 62 8 ns.length (ns.flatMap ePrm) :: rd (wφ M E) :: row p.1 p.2 3 1 ((fireI 0 T).length) ((fireI 0 T).flatMap eInt) :: blk b3 195 [.slice ta2 ((restAt es kk).length) tc2] :: row oa oc 70 2 out.length (out.flatMap eEvt) :: (((metS ss (fireI 0 T) (idsAt es kk)).foldl (addQ kk) (clrQ kk ns.length q)).map (rrow ns.length))) en_68 rfl (fun w' hs => step_c S ma mc sa sc ns ip ss.length M E kk B sts q [blk b3 195 [.slice ta2 ((restAt es kk).length) tc2], row oa oc 70 2 out.length (out.flatMap eEvt)] da dc (idsAt es kk) ss x0 T w w' hW hss (by omega) (by omega) hstl hqo (by omega) hids hil hx0 hT ((((((((hs.pull .p6).pull (.there .here)).pull .p2).pull .p6).pull .p6).pull .p6).pull .p6))) ?_
      rintro ⟨fa, fc⟩
      change Ops _ _ _ _ _ _ _ _ ((35, .slice fa ((fireI 0 T).length) fc) :: _) (blk S 130 ([.slice ma ns.length mc, .int .i64 ip, .slice sa ss.length sc, .map (some M), .int .i64 ((kk + 1 : Nat) : Int), .slice (some ⟨B, 0, none⟩) ns.length ns.length] ++ ((metS ss (fireI 0 T) (idsAt es kk)).foldl (addQ kk) (clrQ kk ns.length q)).map (rcell ns.length)) :: row (some ⟨B, 0, none⟩) ns.length 133 2 ns.length ((T.map (·.1)).flatMap eStt) :: row ma mc 62 8 ns.length (ns.flatMap ePrm) :: rd (wφ M E) :: row fa fc 3 1 ((fireI 0 T).length) ((fireI 0 T).flatMap eInt) :: blk b3 195 [.slice ta2 ((restAt es kk).length) tc2] :: row oa oc 70 2 out.length (out.flatMap eEvt) :: (((metS ss (fireI 0 T) (idsAt es kk)).foldl (addQ kk) (clrQ kk ns.length q)).map (rrow ns.length)))
      refine Ops.q (q_len esz_31 rfl) ?_
      refine Ops.q (q_mv rfl) ?_
      refine Ops.to rfl ?_
      refine Cd.block ?_
      refine Cd.lp (σ := Nat × Option Addr × Nat) (fun s => s.1 ≤ (fireI 0 T).length) (fun s => [(9, .pointer (some ⟨S, 0, none⟩)), (10, .pointer (some ⟨b3, 0, none⟩)), (27, .int .i64 (tn : Int)), (28, .int .i64 (kk : Int)), (12, .int .i64 (kk : Int)), (35, .slice fa ((fireI 0 T).length) fc), (36, .int .i64 ((fireI 0 T).length : Int)), (11, .slice s.2.1 ((out ++ ((fireI 0 T).take s.1).map (fun i => (⟨(kk : Int), i⟩ : Evt))).length) s.2.2), (37, .int .i64 (s.1 : Int))]) (fun s => blk S 130 ([.slice ma ns.length mc, .int .i64 ip, .slice sa ss.length sc, .map (some M), .int .i64 ((kk + 1 : Nat) : Int), .slice (some ⟨B, 0, none⟩) ns.length ns.length] ++ ((metS ss (fireI 0 T) (idsAt es kk)).foldl (addQ kk) (clrQ kk ns.length q)).map (rcell ns.length)) :: row (some ⟨B, 0, none⟩) ns.length 133 2 ns.length ((T.map (·.1)).flatMap eStt) :: row ma mc 62 8 ns.length (ns.flatMap ePrm) :: rd (wφ M E) :: row fa fc 3 1 ((fireI 0 T).length) ((fireI 0 T).flatMap eInt) :: blk b3 195 [.slice ta2 ((restAt es kk).length) tc2] :: row s.2.1 s.2.2 70 2 ((out ++ ((fireI 0 T).take s.1).map (fun i => (⟨(kk : Int), i⟩ : Evt))).length) ((out ++ ((fireI 0 T).take s.1).map (fun i => (⟨(kk : Int), i⟩ : Evt))).flatMap eEvt) :: (((metS ss (fireI 0 T) (idsAt es kk)).foldl (addQ kk) (clrQ kk ns.length q)).map (rrow ns.length))) (fun s => (fireI 0 T).length - s.1) (0, oa, oc) (Nat.zero_le _) ⟨rfl, rfl, rfl, rfl, rfl, rfl, rfl, (by dsimp only; rw [show out ++ ((fireI 0 T).take 0).map (fun i => (⟨(kk : Int), i⟩ : Evt)) = out from List.append_nil _]; rfl), rfl, trivial⟩ (fun _ hs => by have h1 := (((((((hs.pull .p6).pull .p6).pull .p6).pull .p6).pull .p6).pull .p6).pull .p6); dsimp only; rw [show out ++ ((fireI 0 T).take 0).map (fun i => (⟨(kk : Int), i⟩ : Evt)) = out from List.append_nil _]; exact h1) ?_
      rintro ⟨jj, pa, pc⟩ hI
      dsimp only at hI
      change Cd _ _ _ _ _ _ _ [(9, .pointer (some ⟨S, 0, none⟩)), (10, .pointer (some ⟨b3, 0, none⟩)), (27, .int .i64 (tn : Int)), (28, .int .i64 (kk : Int)), (12, .int .i64 (kk : Int)), (35, .slice fa ((fireI 0 T).length) fc), (36, .int .i64 ((fireI 0 T).length : Int)), (11, .slice pa ((out ++ ((fireI 0 T).take jj).map (fun i => (⟨(kk : Int), i⟩ : Evt))).length) pc), (37, .int .i64 (jj : Int))] (blk S 130 ([.slice ma ns.length mc, .int .i64 ip, .slice sa ss.length sc, .map (some M), .int .i64 ((kk + 1 : Nat) : Int), .slice (some ⟨B, 0, none⟩) ns.length ns.length] ++ ((metS ss (fireI 0 T) (idsAt es kk)).foldl (addQ kk) (clrQ kk ns.length q)).map (rcell ns.length)) :: row (some ⟨B, 0, none⟩) ns.length 133 2 ns.length ((T.map (·.1)).flatMap eStt) :: row ma mc 62 8 ns.length (ns.flatMap ePrm) :: rd (wφ M E) :: row fa fc 3 1 ((fireI 0 T).length) ((fireI 0 T).flatMap eInt) :: blk b3 195 [.slice ta2 ((restAt es kk).length) tc2] :: row pa pc 70 2 ((out ++ ((fireI 0 T).take jj).map (fun i => (⟨(kk : Int), i⟩ : Evt))).length) ((out ++ ((fireI 0 T).take jj).map (fun i => (⟨(kk : Int), i⟩ : Evt))).flatMap eEvt) :: (((metS ss (fireI 0 T) (idsAt es kk)).foldl (addQ kk) (clrQ kk ns.length q)).map (rrow ns.length)))
      refine Cd.seq ?_
      refine Cd.region ?_
      by_cases hj0 : (jj : Int) < ((fireI 0 T).length : Int)
      · refine Ops.q (q_cmp rfl rfl (c_lt hj0)) ?_
        obtain ⟨x4, hx5⟩ : ∃ x, (fireI 0 T)[jj]? = some x := ⟨_, List.getElem?_eq_getElem (by omega)⟩
        refine Ops.rowpos .p4 (by omega) ?_
        rintro rb6 rfl
        have hjl : (out ++ ((fireI 0 T).take jj).map (fun i => (⟨(kk : Int), i⟩ : Evt))).length ≤ out.length + jj := by rw [List.length_append, List.length_map, List.length_take]; omega
        refine Ops.to rfl ?_
        refine Cd.seq ?_
        refine Cd.cond_t rfl ?_
        refine Cd.skipTo rfl ?_
        refine Cd.seq ?_
        refine Cd.block ?_
        refine Cd.seq ?_
        refine Cd.region ?_
        refine Ops.q (q_ix (k := jj) esz_31 rfl rfl (by omega)) ?_
        refine Ops.q (q_ldO isA_3 rfl .p4 (fm_at0 eInt_len hx5 rfl)) ?_
        refine Ops.q (q_asg rfl) ?_
        refine Ops.to rfl ?_
        refine Cd.region ?_
        refine Ops.q (q_mv rfl) ?_
        refine Ops.q (q_mv rfl) ?_
        refine Ops.q (q_mv rfl) ?_
        refine Ops.q (q_bld [.int .i64 (kk : Int), .int .i64 x4] pls_70 zc_70 rfl rfl) ?_
        refine Ops.lit [.int .i64 (kk : Int), .int .i64 x4] el_43 zsb_70 rfl rfl ⟨by decide, by decide⟩ rfl ?_
        intro b7
        refine Ops.app (news := [.int .i64 (kk : Int), .int .i64 x4]) el_43 zsb_70 (by decide) rfl rfl (fun _ hs => hs.ownRo .here) (fun _ hs => (hs.pull .here).drop) (fun _ _ => .p6) rfl (one rfl) (by omega) (by omega) ?_
        intro a8 c9
        refine Ops.q (q_asg rfl) ?_
        refine Ops.to rfl ?_
        refine Cd.region ?_
        refine Ops.q (q_ar rfl rfl (a_inc (by omega))) ?_
        refine Ops.q (q_mv rfl) ?_
        refine Ops.rnd ((jj + 1, a8, c9)) rfl (by dsimp only; exact (by omega)) (by dsimp only; omega) ⟨rfl, rfl, rfl, rfl, rfl, rfl, rfl, (by dsimp only; rw [out_len hx5]; rfl), rfl, trivial⟩ (fun _ hs => by have h1 := (((((((hs.pull .p6).pull .p6).pull .p6).pull .p6).pull .p6).pull .p6).pull .p6); dsimp only; rw [out_len hx5, out_app hx5, fm_app]; exact h1) 
      · refine Ops.q (q_cmp rfl rfl (c_nlt (by omega))) ?_
        refine Ops.to rfl ?_
        refine Cd.seq ?_
        refine Cd.cond_f rfl ?_
        refine Cd.exitTo rfl ?_
        refine Cd.seq ?_
        have hOj : (out ++ ((fireI 0 T).take jj).map (fun i => (⟨(kk : Int), i⟩ : Evt))) = out ++ (fireI 0 T).map (fun i => (⟨(kk : Int), i⟩ : Evt)) := by rw [List.take_of_length_le (by omega)]
        have hOl : (out ++ (fireI 0 T).map (fun i => (⟨(kk : Int), i⟩ : Evt))).length = (out ++ ((fireI 0 T).take jj).map (fun i => (⟨(kk : Int), i⟩ : Evt))).length := by rw [hOj]
        refine Cd.region ?_
        refine Ops.q (q_mv rfl) ?_
        refine Ops.q (q_len esz_43 rfl) ?_
        by_cases h10 : 65536 < ((out ++ ((fireI 0 T).take jj).map (fun i => (⟨(kk : Int), i⟩ : Evt))).length : Int)
        · refine Ops.q (q_cmp rfl rfl (c_gt h10)) ?_
          refine Ops.to rfl ?_
          refine Cd.cond_t rfl ?_
          refine Cd.seq ?_
          refine Cd.region ?_
          refine Ops.q (q_asg rfl) ?_
          refine Ops.q (q_asg rfl) ?_
          refine Ops.to rfl ?_
          refine Cd.rt (fn := Tryz.f93) [.slice none 0 0, .int .i64 8] (by with_reducible repeat (first | exact rq_here | apply rq_then | apply rq_block)) rfl ⟨rfl, rfl, trivial⟩ ?_
          intro w' hs'
          rw [if_neg (by simpa using hp), Int.toNat_natCast]; rw [if_pos (by omega)] at hrun; rw [← hrun]; exact ⟨rfl, hs'.none⟩
        · refine Ops.q (q_cmp rfl rfl (c_ngt (by omega))) ?_
          refine Ops.to rfl ?_
          refine Cd.cond_f rfl ?_
          refine Cd.skipTo rfl ?_
          refine Cd.region ?_
          refine Ops.q (q_ar rfl rfl (a_inc (by omega))) ?_
          refine Ops.q (q_mv rfl) ?_
          refine Ops.rnd ((kk + 1, (T.map (·.1)), ((metS ss (fireI 0 T) (idsAt es kk)).foldl (addQ kk) (clrQ kk ns.length q)), (restAt es kk), (out ++ (fireI 0 T).map (fun i => (⟨(kk : Int), i⟩ : Evt))), ta2, tc2, pa, pc)) rfl (by dsimp only; exact (⟨by omega, by rw [List.length_map]; omega, (ringOK.clr hqo).addAll _, hes2, hec2, by omega, fun e he => hei e (dropWhile_mem he), by omega, by rw [if_neg (by omega)] at hrun; rw [← hrun, show tn - (kk + 1) = f by omega]⟩)) (by dsimp only; omega) ⟨rfl, rfl, rfl, (by dsimp only; rw [← hOj]; rfl), rfl, trivial⟩ (fun _ hs => by have h1 := (((((((hs.pull .p6).pull .p6).pull .p5).pull .p5).pull .p5).pull .p5).pull .p6).drop; rw [hOj] at h1; exact h1) 
    · refine Ops.q (q_cmp rfl rfl (c_nlt (by omega))) ?_
      refine Ops.to rfl ?_
      refine Cd.seq ?_
      refine Cd.cond_f rfl ?_
      refine Cd.exitTo rfl ?_
      refine Cd.seq ?_
      refine Cd.region ?_
      refine Ops.q (q_mv rfl) ?_
      refine Ops.q (q_asg rfl) ?_
      refine Ops.q (q_asg rfl) ?_
      refine Ops.to rfl ?_
      refine Cd.rt (fn := Tryz.f93) [.slice oa out.length oc, .int .i64 0] (by with_reducible repeat (first | exact rq_here | apply rq_then | apply rq_block)) rfl ⟨rfl, rfl, trivial⟩ ?_
      intro w' hs'
      obtain ⟨hk1, hstl, hqo, hes, hec1, hel, hei, hol, hrun⟩ := hI
      rw [show tn - kk = 0 by omega, runP] at hrun
      rw [if_neg (by simpa using hp), Int.toNat_natCast, ← hrun]
      exact ⟨(oa, oc), rfl, hs'.only .p5⟩
  · refine Ops.q (q_cmp rfl rfl (c_ne h2)) ?_
    refine Ops.to rfl ?_
    refine Cd.cond_t rfl ?_
    refine Cd.seq ?_
    refine Cd.region ?_
    refine Ops.q (q_mv rfl) ?_
    refine Ops.q (q_asg rfl) ?_
    refine Ops.q (q_asg rfl) ?_
    refine Ops.to rfl ?_
    refine Cd.rt (fn := Tryz.f93) [.slice none 0 0, .int .i64 (preparedE ⟨ns, ip, ss⟩ evs t 10000)] (by with_reducible repeat (first | exact rq_here | apply rq_then | apply rq_block)) rfl ⟨rfl, rfl, trivial⟩ ?_
    intro w' hs'
    rw [if_pos h2]; exact ⟨rfl, hs'.none⟩
end Go.Proofs.YtilcdghliigngaaGreatDoor
namespace Go.Proofs.YtilcdghliigngaaGreatDoor
open Go.RowKit Go.Proofs.YtilcdghliigngaaGreatDoorGl Go.Proofs.YtilcdghliigngaaGreatDoorPm
set_option linter.unusedVariables false
set_option linter.unusedSimpArgs false
def sumI {α : Type} (f : α → Int) : List α → Int
  | [] => 0
  | x :: xs => f x + sumI f xs
theorem sumI_app {α : Type} (f : α → Int) : ∀ (xs ys : List α), sumI f (xs ++ ys) = sumI f xs + sumI f ys
  | [], ys => by simp [sumI]
  | x :: xs, ys => by simp only [List.cons_append, sumI, sumI_app f xs ys]; omega
theorem sumI_congr {α : Type} {f g : α → Int} : ∀ {xs : List α}, (∀ x ∈ xs, f x = g x) → sumI f xs = sumI g xs
  | [], _ => rfl
  | x :: xs, h => by simp only [sumI, h x (.head _), sumI_congr (fun y hy => h y (.tail _ hy))]
theorem sumI_add {α : Type} (f g : α → Int) : ∀ (xs : List α), sumI (fun x => f x + g x) xs = sumI f xs + sumI g xs
  | [] => rfl
  | x :: xs => by simp only [sumI, sumI_add f g xs]; omega
theorem sumI_zero {α : Type} {f : α → Int} : ∀ {xs : List α}, (∀ x ∈ xs, f x = 0) → sumI f xs = 0
  | [], _ => rfl
  | x :: xs, h => by simp only [sumI, h x (.head _), sumI_zero (fun y hy => h y (.tail _ hy))]; rfl
theorem sumI_filt (g : Syn → Int) (k : Int) : ∀ (ss : List Syn), sumI g (filt ss k) = sumI (fun s => if s.src = k then g s else 0) ss
  | [] => rfl
  | s :: ss => by
    have ih := sumI_filt g k ss
    unfold filt at ih ⊢
    rw [List.filter_cons]
    by_cases h : s.src = k
    · simp only [h, BEq.rfl, if_true, sumI, ih]
    · have h2 : (s.src == k) = false := by simpa using h
      simp only [h2, Bool.false_eq_true, if_false, sumI, if_neg h, ih]; omega
theorem sumI_keys (g : Syn → Int) (ss : List Syn) : ∀ {keys : List Int}, keys.Nodup → sumI g (keys.flatMap (filt ss)) = sumI (fun s => if s.src ∈ keys then g s else 0) ss
  | [], _ => (sumI_zero (fun x _ => by simp)).symm
  | k :: ks, h => by
    obtain ⟨h1, h2⟩ := List.nodup_cons.1 h
    rw [List.flatMap_cons, sumI_app, sumI_keys g ss h2, sumI_filt, ← sumI_add]
    refine sumI_congr (fun s _ => ?_)
    by_cases e : s.src = k
    · subst e; simp [h1]
    · simp [e]
theorem metS_keys (ss : List Syn) (fire ids : List Int) : metS ss fire ids = (fire ++ ids.map (fun i => -1 - i)).flatMap (filt ss) := by
  unfold metS
  rw [List.flatMap_append, List.flatMap_map]
abbrev W64 (x : Int) : Int := IntKind.i64.wrap x
theorem W64_add (a b : Int) : W64 (W64 a + b) = W64 (a + b) := by
  simp only [W64, IntKind.wrap_i64]; omega
theorem W64_id {a : Int} (h : -4611686018427387904 ≤ a ∧ a ≤ 4611686018427387904) : W64 a = a := by
  simp only [W64, IntKind.wrap_i64]; omega
def rgc (q : List (List Int)) (j d : Nat) : Int := (((q[j]?).getD [])[d]?).getD 0
def Shp (q : List (List Int)) (n : Nat) : Prop := q.length = 16 ∧ ∀ (j : Nat) (r : List Int), q[j]? = some r → r.length = n
theorem modify_get {α : Type} (f : α → α) (xs : List α) (i j : Nat) : (xs.modify i f)[j]? = if i = j then (xs[j]?).map f else xs[j]? := by
  rw [List.getElem?_modify]
  split <;> simp_all
theorem addR_shp {q : List (List Int)} {n now : Nat} {s : Syn} (h : Shp q n) : Shp (addR now q s) n := by
  refine ⟨by unfold addR; rw [List.length_modify]; exact h.1, fun j r hr => ?_⟩
  unfold addR at hr
  rw [modify_get] at hr
  split at hr
  · obtain ⟨r', h1, h2⟩ := Option.map_eq_some_iff.1 hr
    subst h2; rw [List.length_modify]; exact h.2 j r' h1
  · exact h.2 j r hr
theorem addR_get {q : List (List Int)} {n now j d : Nat} {s : Syn} (h : Shp q n) (hj : j < 16) (hd : d < n) (hs : 0 ≤ s.dst) :
    rgc (addR now q s) j d = if (((now : Int) + s.dl) % 16 = (j : Int) ∧ s.dst = (d : Int)) then W64 (rgc q j d + s.wt) else rgc q j d := by
  obtain ⟨r, hr⟩ : ∃ r, q[j]? = some r := ⟨_, List.getElem?_eq_getElem (by rw [h.1]; exact hj)⟩
  have hl := h.2 j r hr
  obtain ⟨v, hv⟩ : ∃ v, r[d]? = some v := ⟨_, List.getElem?_eq_getElem (by omega)⟩
  unfold rgc addR
  rw [modify_get, hr]
  have e1 : ((((now : Int) + s.dl) % 16).toNat = j) ↔ ((now : Int) + s.dl) % 16 = (j : Int) := by omega
  have e2 : (s.dst.toNat = d) ↔ s.dst = (d : Int) := by omega
  by_cases c1 : ((now : Int) + s.dl) % 16 = (j : Int)
  · rw [if_pos (e1.2 c1)]
    simp only [Option.map_some, Option.getD_some, modify_get, hv]
    by_cases c2 : s.dst = (d : Int)
    · rw [if_pos (e2.2 c2), if_pos ⟨c1, c2⟩]; rfl
    · rw [if_neg (fun e => c2 (e2.1 e)), if_neg (fun e => c2 e.2)]; rfl
  · rw [if_neg (fun e => c1 (e1.1 e)), if_neg (fun e => c1 e.1)]
theorem fold_get {n now : Nat} : ∀ {l : List Syn} {q : List (List Int)}, Shp q n → (∀ s ∈ l, 0 ≤ s.dst) →
    Shp (l.foldl (addR now) q) n ∧ ∀ (j d : Nat) (y : Int), j < 16 → d < n → rgc q j d = W64 y →
      rgc (l.foldl (addR now) q) j d = W64 (y + sumI (fun s => if ((now : Int) + s.dl) % 16 = (j : Int) ∧ s.dst = (d : Int) then s.wt else 0) l)
  | [], q, h, _ => ⟨h, fun j d y _ _ hy => by simp only [List.foldl_nil, sumI, Int.add_zero]; exact hy⟩
  | s :: l, q, h, hs => by
    obtain ⟨h1, h2⟩ := fold_get (l := l) (addR_shp (now := now) (s := s) h) (fun t ht => hs t (.tail _ ht))
    refine ⟨h1, fun j d y hj hd hy => ?_⟩
    have hg := addR_get (now := now) h hj hd (hs s (.head _))
    rw [List.foldl_cons]
    by_cases c : ((now : Int) + s.dl) % 16 = (j : Int) ∧ s.dst = (d : Int)
    · rw [if_pos c, hy, W64_add] at hg
      rw [h2 j d _ hj hd hg, sumI, if_pos c]; congr 1; omega
    · rw [if_neg c, hy] at hg
      rw [h2 j d _ hj hd hg, sumI, if_neg c]; congr 1; omega
def srcF (F : Nat → Nat → Bool) (idl : Nat → List Int) (t : Nat) (s : Int) : Bool := if 0 ≤ s then F t s.toNat else decide (-1 - s ∈ idl t)
def dueY (ss : List Syn) (F : Nat → Nat → Bool) (idl : Nat → List Int) (k j d : Nat) : Int :=
  sumI (fun s => if s.dst = (d : Int) ∧ (j : Int) < s.dl ∧ s.dl ≤ (k : Int) + j ∧ srcF F idl ((k : Int) + j - s.dl).toNat s.src = true then s.wt else 0) ss
def inX (ss : List Syn) (F : Nat → Nat → Bool) (idl : Nat → List Int) (k d : Nat) : Int :=
  sumI (fun s => if s.dst = (d : Int) ∧ s.dl ≤ (k : Int) ∧ srcF F idl ((k : Int) - s.dl).toNat s.src = true then s.wt else 0) ss
def stepV (p : Prm) (v x : Int) : Int × Bool := if tickV p v x < p.th then (tickV p v x, false) else if p.rk = 1 then (tickV p v x - p.th, true) else (p.rs, true)
theorem stepV_bd {p : Prm} (hp : nCheck p = 0) (v x : Int) : wi (stepV p v x).1 p.fl 1048576 := by
  obtain ⟨h1, h2, h3, h4, h5, h6, h7, h8⟩ := nCheck_ok hp
  have hb := boundP_bd (leakP p v + p.bias + boundP x (-4194304) 4194304) (show p.fl ≤ 1048576 by unfold wi at h5; omega)
  unfold wi at *
  unfold stepV
  have e : tickV p v x = boundP (leakP p v + p.bias + boundP x (-4194304) 4194304) p.fl 1048576 := rfl
  rw [← e] at hb
  split
  · exact hb
  · split
    · rename_i c1 c2; dsimp only; omega
    · rename_i c1 c2; rw [if_neg c2, if_neg c2] at h8; dsimp only; omega
theorem tickP_eq {p : Prm} (hp : nCheck p = 0) (hr : p.rest = 0) {v x : Int} (hv : wi v p.fl 1048576) : tickP p ⟨v, 0⟩ x = (⟨(stepV p v x).1, 0⟩, (stepV p v x).2) := by
  have hn : nValid p ⟨v, 0⟩ = 0 := by
    unfold nValid
    rw [if_neg (by simpa using hp), if_pos ⟨hv, by unfold wi; rw [hr]; simp⟩]
  unfold tickP stepV
  rw [if_neg (by simpa using hn), if_neg (by simp)]
  split
  · rfl
  · split
    · simp [hr]
    · simp [hr]
theorem fireI_range {T : List (Stt × Bool)} {F : Nat → Bool} (h : ∀ (d : Nat) (t : Stt × Bool), T[d]? = some t → t.2 = F d) : ∀ k, k ≤ T.length → fireI 0 (T.take k) = ((List.range k).filter F).map (fun d : Nat => (d : Int))
  | 0, _ => rfl
  | k + 1, hk => by
    obtain ⟨t, ht⟩ : ∃ t, T[k]? = some t := ⟨_, List.getElem?_eq_getElem (by omega)⟩
    rw [fireI_take ht, fireI_range h k (by omega), List.range_succ, List.filter_append, List.map_append]
    congr 1
    rw [h k t ht]
    cases hF : F k <;> simp [hF]
def evF (idl : Nat → List Int) : Nat → Nat → List Evt
  | _, 0 => []
  | now, f + 1 => (idl now).map (fun i => (⟨(now : Int), i⟩ : Evt)) ++ evF idl (now + 1) f
theorem evF_ge (idl : Nat → List Int) : ∀ (f now : Nat) (e : Evt), e ∈ evF idl now f → (now : Int) ≤ e.tick
  | 0, now, e, h => by simp [evF] at h
  | f + 1, now, e, h => by
    rcases List.mem_append.1 h with h | h
    · obtain ⟨i, _, rfl⟩ := List.mem_map.1 h; exact Int.le_refl _
    · have := evF_ge idl f (now + 1) e h; omega
theorem while_app {α : Type} {p : α → Bool} : ∀ {A B : List α}, (∀ a ∈ A, p a = true) → (∀ b ∈ B, p b = false) → (A ++ B).takeWhile p = A ∧ (A ++ B).dropWhile p = B
  | [], [], _, _ => ⟨rfl, rfl⟩
  | [], b :: B, _, hB => by
    have := hB b (.head _)
    simp [List.takeWhile_cons, List.dropWhile_cons, this]
  | a :: A, B, hA, hB => by
    have h1 := hA a (.head _)
    obtain ⟨h2, h3⟩ := while_app (A := A) (B := B) (fun x hx => hA x (.tail _ hx)) hB
    simp [List.takeWhile_cons, List.dropWhile_cons, h1, h2, h3]
def outF (F : Nat → Nat → Bool) (n : Nat) (k : Nat) : List Evt := (List.range k).flatMap fun t => ((List.range n).filter (F t)).map fun d : Nat => (⟨(t : Int), (d : Int)⟩ : Evt)
structure SimI (ns : List Prm) (ss : List Syn) (F : Nat → Nat → Bool) (idl : Nat → List Int) (V : Nat → Nat → Int) (k : Nat) (sts : List Stt) (ring : List (List Int)) : Prop where
  shp : Shp ring ns.length
  sts : sts.length = ns.length ∧ ∀ (d : Nat) (s : Stt), sts[d]? = some s → s = ⟨V k d, 0⟩
  ring : ∀ (j d : Nat), j < 16 → d < ns.length → rgc ring ((k + j) % 16) d = W64 (dueY ss F idl k j d)
  bd : ∀ (d : Nat) (p : Prm), ns[d]? = some p → wi (V k d) p.fl 1048576
theorem dueY_next {ss : List Syn} {F : Nat → Nat → Bool} {idl : Nat → List Int} {k j d : Nat} (hj : j < 16) :
    dueY ss F idl (k + 1) j d = dueY ss F idl k (j + 1) d + sumI (fun s => if s.dl = (j : Int) + 1 ∧ s.dst = (d : Int) ∧ srcF F idl k s.src = true then s.wt else 0) ss := by
  unfold dueY
  rw [← sumI_add]
  refine sumI_congr (fun s _ => ?_)
  have e1 : ((k + 1 : Nat) : Int) + (j : Int) - s.dl = (k : Int) + ((j + 1 : Nat) : Int) - s.dl := by omega
  rw [e1]
  by_cases hd : s.dst = (d : Int)
  · by_cases hl : s.dl = (j : Int) + 1
    · have e2 : ((k : Int) + ((j + 1 : Nat) : Int) - s.dl).toNat = k := by omega
      rw [e2]
      by_cases hf : srcF F idl k s.src = true
      · rw [if_pos ⟨hd, by omega, by omega, hf⟩, if_neg (fun c => by omega), if_pos ⟨hl, hd, hf⟩]; omega
      · rw [if_neg (fun c => hf c.2.2.2), if_neg (fun c => hf c.2.2.2), if_neg (fun c => hf c.2.2)]; rfl
    · rw [if_neg (show ¬ (s.dl = (j : Int) + 1 ∧ s.dst = (d : Int) ∧ srcF F idl k s.src = true) from fun c => hl c.1)]
      by_cases hc : (j : Int) < s.dl ∧ s.dl ≤ ((k + 1 : Nat) : Int) + j ∧ srcF F idl ((k : Int) + ((j + 1 : Nat) : Int) - s.dl).toNat s.src = true
      · rw [if_pos ⟨hd, hc.1, hc.2.1, hc.2.2⟩, if_pos ⟨hd, by omega, by omega, hc.2.2⟩]; omega
      · rw [if_neg (fun c => hc c.2), if_neg (fun c => hc ⟨by omega, by omega, c.2.2.2⟩)]; rfl
  · rw [if_neg (fun c => hd c.1), if_neg (fun c => hd c.1), if_neg (fun c => hd c.2.1)]; rfl
theorem inX_due (ss : List Syn) (F : Nat → Nat → Bool) (idl : Nat → List Int) (k d : Nat) (h : ∀ s ∈ ss, 1 ≤ s.dl) : dueY ss F idl k 0 d = inX ss F idl k d := by
  unfold dueY inX
  refine sumI_congr (fun s hs => ?_)
  have := h s hs
  have e : (k : Int) + ((0 : Nat) : Int) - s.dl = (k : Int) - s.dl := by omega
  rw [e]
  by_cases hc : s.dst = (d : Int) ∧ s.dl ≤ (k : Int) ∧ srcF F idl ((k : Int) - s.dl).toNat s.src = true
  · rw [if_pos ⟨hc.1, by omega, by omega, hc.2.2⟩, if_pos hc]
  · rw [if_neg (fun c => hc ⟨c.1, by omega, c.2.2.2⟩), if_neg hc]
end Go.Proofs.YtilcdghliigngaaGreatDoor
