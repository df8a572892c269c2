/- Part of a claim: the program logic, the contracts of the functions, their models. No condition. -/
import Derived.WalkKit
import Derived.OwnWalkIn
import Derived.TacticsInMore
import Derived.OrdersIn
import Derived.RangeFuncLeaves
import Derived.RangeFuncNested
import Derived.Maps.AppendAt
import Derived.Shelf.Abstract
import Derived.Test.YtilcdghliigngaaProg
import Derived.MapKept
import Derived.Laws.StructEq
import Derived.Laws.OwnMore
import Derived.RangeFuncRecord
import Derived.Lib.SliceRun
import Derived.Lib.AppendZeros
import Derived.Lib.AppendZerosOnto
import Derived.Lib.Overlaps
import Derived.Laws.Externs
import Derived.Test.YtilcdghliigngaaPa4
namespace Go.Proofs.Ytilcdghliigngaa
open Go.RowKit Go.Proofs.YtilcdghliigngaaGl Go.Proofs.YtilcdghliigngaaPm
set_option linter.unusedVariables false
set_option linter.unusedSimpArgs false
abbrev CL := NL × Int
abbrev clP (l : CL) : List Int × Int := (l.1.2, l.2)
def eCl (l : CL) : List Value := [.slice l.1.1.1 l.1.2.length l.1.1.2, .int .i64 l.2]
theorem eCl_len (l : CL) : (eCl l).length = 2 := rfl
def RoCL (w : World) (a : Option Addr) (ls : List CL) : Prop := RoL w a eCl ls ∧ ∀ l ∈ ls, RoL w l.1.1.1 eInt l.1.2
theorem RoCL.later {w w' : World} {a : Option Addr} {ls : List CL} (h : RoCL w a ls) (hb : Below w.heap.size w w') : RoCL w' a ls := ⟨RoL.later h.1 hb, fun l hl => RoL.later (h.2 l hl) hb⟩
def claE (n : Int) (c : List Int × Int) : Int := if 16 < c.1.length then 9 else if setE n c.1 ≠ 0 then setE n c.1 else if wi c.2 (-1) (n - 1) then 0 else 4
def clS (m c : Nat) (x : List Int × Int) : List Syn :=
  (x.1.map (fun t : Int => (⟨t, ((m + 1 + c : Nat) : Int), 1, 1⟩ : Syn)) ++ (if x.1.length = 0 then [⟨-1 - 0, ((m + 1 + c : Nat) : Int), 1, 1⟩] else [])) ++ [⟨((m + 1 + c : Nat) : Int), if x.2 < 0 then (m : Int) else x.2, 1, 1⟩]
def clTo (m : Nat) (cs : List (List Int × Int)) (k : Nat) : List Syn := (List.range k).flatMap fun c => clS m c (cs.getD c ([], 0))
def hornP (n : Int) (cs : List (List Int × Int)) : Except Int NetP :=
  if wi n 1 256 then
    if 512 < cs.length then .error 9
    else if firstE (claE n) cs ≠ 0 then .error (firstE (claE n) cs)
    else .ok ⟨List.replicate (n.toNat + 1) (onceP 1) ++ cs.map (fun c => onceP (max 1 (c.1.length : Int))), 1, selvesFrom 0 (n.toNat + 1 + cs.length) ++ clTo n.toNat cs cs.length⟩
  else .error 3
theorem clS_len (m c : Nat) (x : List Int × Int) : (clS m c x).length ≤ x.1.length + 2 := by
  unfold clS
  simp only [List.length_append, List.length_map, List.length_cons, List.length_nil]
  split <;> simp
theorem clTo_len {m : Nat} {cs : List (List Int × Int)} (h : ∀ x ∈ cs, x.1.length ≤ 16) : ∀ k, k ≤ cs.length → (clTo m cs k).length ≤ k * 18
  | 0, _ => by simp [clTo]
  | k + 1, hk => by
    have ih := clTo_len (m := m) h k (by omega)
    unfold clTo at ih ⊢
    rw [rf_app, List.length_append]
    obtain ⟨x, hx⟩ : ∃ x, cs[k]? = some x := ⟨_, List.getElem?_eq_getElem (by omega)⟩
    rw [getD_at hx]
    have h1 := clS_len m k x
    have h2 := h x (List.mem_iff_getElem?.2 ⟨k, hx⟩)
    omega
theorem cl_stepE {m q : Nat} {cs : List (List Int × Int)} {xr : List Int} {xt to : Int} (h : cs[q]? = some (xr, xt)) (h0 : xr.length = 0) (ht : (if xt < 0 then (m : Int) else xt) = to) (X : List Syn) :
    X ++ clTo m cs (q + 1) = (((X ++ clTo m cs q) ++ xr.map (fun t : Int => (⟨t, ((m + 1 + q : Nat) : Int), 1, 1⟩ : Syn))) ++ [⟨-1 - 0, ((m + 1 + q : Nat) : Int), 1, 1⟩]) ++ [⟨((m + 1 + q : Nat) : Int), to, 1, 1⟩] := by
  unfold clTo
  rw [rf_app, getD_at h, clS, if_pos h0, ht]
  simp
theorem cl_stepN {m q : Nat} {cs : List (List Int × Int)} {xr : List Int} {xt to : Int} (h : cs[q]? = some (xr, xt)) (h0 : ¬ xr.length = 0) (ht : (if xt < 0 then (m : Int) else xt) = to) (X : List Syn) :
    X ++ clTo m cs (q + 1) = ((X ++ clTo m cs q) ++ xr.map (fun t : Int => (⟨t, ((m + 1 + q : Nat) : Int), 1, 1⟩ : Syn))) ++ [⟨((m + 1 + q : Nat) : Int), to, 1, 1⟩] := by
  unfold clTo
  rw [rf_app, getD_at h, clS, if_neg h0, ht]
  simp
theorem claE_9 {n : Int} {c : List Int × Int} (h : 16 < c.1.length) : claE n c = 9 := by unfold claE; rw [if_pos h]
theorem claE_s {n : Int} {c : List Int × Int} (h : ¬ 16 < c.1.length) (h2 : ¬ setE n c.1 = 0) : claE n c = setE n c.1 := by unfold claE; rw [if_neg h, if_pos h2]
theorem claE_4 {n : Int} {c : List Int × Int} (h : ¬ 16 < c.1.length) (h2 : setE n c.1 = 0) (h3 : ¬ wi c.2 (-1) (n - 1)) : claE n c = 4 := by unfold claE; rw [if_neg h, if_neg (by simpa using h2), if_neg h3]
theorem claE_0 {n : Int} {c : List Int × Int} (h : ¬ 16 < c.1.length) (h2 : setE n c.1 = 0) (h3 : wi c.2 (-1) (n - 1)) : claE n c = 0 := by unfold claE; rw [if_neg h, if_neg (by simpa using h2), if_pos h3]
theorem claE_16 {n : Int} {c : List Int × Int} (h : claE n c = 0) : c.1.length ≤ 16 := by
  unfold claE at h
  split at h
  · cases h
  · omega
theorem horn_c (n : Int) (la : Option Addr) (lc : Nat) (ls : List CL) (w : World) (hL : RoCL w la ls) : Calls Try.prog 26 [.int .i64 n, .slice la ls.length lc].toArray w (RetR (hornP n (ls.map clP)) w) := by
  refine fstart Try.func26 rfl rfl (Sat.nil w) ?_
  refine Cd.seq ?_
  refine Cd.region ?_
  refine Ops.alc [.slice none 0 0, .int .i64 0, .slice none 0 0] zc_32 ?_
  intro b1
  refine Ops.q (q_asg rfl) ?_
  refine Ops.to rfl ?_
  refine Cd.seq ?_
  refine Cd.block ?_
  refine Cd.seq ?_
  refine Cd.region ?_
  refine Ops.q (q_mv rfl) ?_
  by_cases h2 : wi n 1 256
  · refine Ops.cp en_57 rfl (fun w hs => dT (in_c _ _ _ w) h2) ?_
    refine Ops.q (q_not rfl) ?_
    refine Ops.q (q_asg rfl) ?_
    refine Ops.to rfl ?_
    refine Cd.cond_f rfl ?_
    refine Cd.seq ?_
    refine Cd.region ?_
    obtain ⟨m, rfl⟩ : ∃ j : Nat, n = (j : Int) := ⟨n.toNat, by unfold wi at h2; omega⟩
    have hm : 1 ≤ m ∧ m ≤ 256 := by unfold wi at h2; omega
    refine Ops.q (q_mv rfl) ?_
    refine Ops.q (q_len esz_52 rfl) ?_
    by_cases h3 : 512 < (ls.length : Int)
    · refine Ops.q (q_cmp rfl rfl (c_gt h3)) ?_
      refine Ops.q (q_asg rfl) ?_
      refine Ops.to rfl ?_
      refine Cd.cond_t rfl ?_
      refine Cd.seq ?_
      refine Cd.region ?_
      refine Ops.q (q_bld [.slice none 0 0, .int .i64 0, .slice none 0 0] pls_32 zc_32 rfl rfl) ?_
      refine Ops.stB [.slice none 0 0, .int .i64 0, .slice none 0 0] [.slice none 0 0, .int .i64 0, .slice none 0 0] sz_32 rfl rfl rfl (one rfl) .here rfl rfl ?_
      refine Ops.q (q_asg rfl) ?_
      refine Ops.to rfl ?_
      refine Cd.rt (fn := Try.f26) [.agg [.slice none 0 0, .int .i64 0, .slice none 0 0].toArray, .int .i64 9] (by with_reducible repeat (first | exact rq_here | apply rq_then | apply rq_block)) rfl ⟨⟨_, _, rfl, fun _ hs => run_loadN isA_32 sz_32 (fun o u hu => Sat.atB .here (by rw [Nat.zero_add]; exact hu) hs)⟩, rfl, trivial⟩ ?_
      intro w' hs'
      rw [show hornP (m : Int) (ls.map clP) = .error 9 by unfold hornP; rw [if_pos h2, if_pos (by rw [List.length_map]; omega)]]
      exact ⟨rfl, hs'.none⟩
    · refine Ops.q (q_cmp rfl rfl (c_ngt (by omega))) ?_
      refine Ops.q (q_asg rfl) ?_
      refine Ops.to rfl ?_
      refine Cd.cond_f rfl ?_
      refine Cd.skipTo rfl ?_
      refine Cd.seq ?_
      refine Cd.region ?_
      refine Ops.q (q_bld [.slice none 0 0, .int .i64 1, .slice none 0 0] pls_32 zc_32 rfl rfl) ?_
      refine Ops.q (q_bld [.slice none 0 0, .int .i64 1, .slice none 0 0] pls_114 zc_114 rfl rfl) ?_
      refine Ops.alc [.slice none 0 0, .int .i64 0, .slice none 0 0] zc_114 ?_
      intro b4
      refine Ops.stB [.slice none 0 0, .int .i64 1, .slice none 0 0] [.slice none 0 0, .int .i64 1, .slice none 0 0] sz_114 rfl rfl rfl (one rfl) .here rfl rfl ?_
      refine Ops.to rfl ?_
      refine Cd.seq ?_
      refine Cd.nilRow 126 4 ?_
      refine Cd.nilRow 116 8 ?_
      change Cd _ _ _ _ _ _ _ _ ([row none 0 116 8 (([] : List Prm).length) (([] : List Prm).flatMap ePrm), row none 0 126 4 (([] : List Syn).length) (([] : List Syn).flatMap eSyn), blk b4 114 [.slice none (([] : List Prm).length) 0, .int .i64 1, .slice none (([] : List Syn).length) 0], blk b1 32 [.slice none 0 0, .int .i64 0, .slice none 0 0]])
      refine Cd.region ?_
      refine Ops.cp en_60 rfl (fun w hs => once_c w) ?_
      refine Ops.cl (α := Nat × Nat) (v := fun x => .func (.func 86) #[] #[.pointer (some ⟨x.1, 0, none⟩), .pointer (some ⟨x.2, 0, none⟩)]) (B := fun x => [blk x.1 116 (ePrm (onceP 0)), blk x.2 161 [.pointer (some ⟨b4, 0, none⟩)]]) en_49 rfl (fun w hs => grow_c b4 (onceP 0) w) ?_
      rintro ⟨pb5, bb6⟩
      refine Ops.q (q_asg rfl) ?_
      refine Ops.to rfl ?_
      refine Cd.seq ?_
      refine Cd.region ?_
      refine Ops.q (q_mv rfl) ?_
      refine Ops.lit [.int .i64 1] el_26 zsb_3 rfl rfl ⟨by decide, by decide⟩ rfl ?_
      intro b7
      refine Ops.q (q_mv rfl) ?_
      refine Ops.q (q_ar (v := ((m + 1 : Nat) : Int)) rfl rfl (a_inc (by omega))) ?_
      refine Ops.cm (α := Option Addr × Nat) (v := fun p => .slice p.1 (List.replicate (m + 1) (1 : Int)).length p.2) (A' := fun p => row p.1 p.2 3 1 (List.replicate (m + 1) (1 : Int)).length ((List.replicate (m + 1) (1 : Int)).flatMap eInt) :: [row (some ⟨b7, 0, none⟩) 1 3 1 1 [.int .i64 1], blk pb5 116 (ePrm (onceP 0)), blk bb6 161 [.pointer (some ⟨b4, 0, none⟩)], row none 0 116 8 (([] : List Prm).length) (([] : List Prm).flatMap ePrm), row none 0 126 4 (([] : List Syn).length) (([] : List Syn).flatMap eSyn), blk b4 114 [.slice none (([] : List Prm).length) 0, .int .i64 1, .slice none (([] : List Syn).length) 0], blk b1 32 [.slice none 0 0, .int .i64 0, .slice none 0 0]]) en_52 rfl (fun w hs => repeat_l b7 1 (m + 1) _ w _ (by omega) ((((((((hs.pull (.there (.there (.there (.there (.there (.there .here))))))).pull (.there (.there (.there (.there (.there (.there .here))))))).pull (.there (.there (.there (.there (.there (.there .here))))))).pull (.there (.there (.there (.there (.there (.there .here))))))).pull (.there (.there (.there (.there (.there (.there .here))))))).pull (.there (.there (.there (.there (.there (.there .here))))))).pull (.there (.there (.there (.there (.there (.there .here))))))))) ?_
      rintro ⟨a8, c9⟩
      refine Ops.cv (α := Option Addr × Nat) (k := 86) (first := []) (caps := [.pointer (some ⟨pb5, 0, none⟩), .pointer (some ⟨bb6, 0, none⟩)]) (vs := [.slice a8 ((List.replicate (m + 1) (1 : Int)).length) c9]) (v := fun _ => .tuple #[]) (A' := fun p => [blk b4 114 [.slice p.1 ((([] : List Prm) ++ (List.replicate (m + 1) (1 : Int)).map (setTh (onceP 0))).length) p.2, .int .i64 1, .slice none (([] : List Syn).length) 0], row p.1 p.2 116 8 ((([] : List Prm) ++ (List.replicate (m + 1) (1 : Int)).map (setTh (onceP 0))).length) ((([] : List Prm) ++ (List.replicate (m + 1) (1 : Int)).map (setTh (onceP 0))).flatMap ePrm), row none 0 126 4 (([] : List Syn).length) (([] : List Syn).flatMap eSyn), blk pb5 116 (ePrm (onceP 0)), blk bb6 161 [.pointer (some ⟨b4, 0, none⟩)], row a8 c9 3 1 ((List.replicate (m + 1) (1 : Int)).length) ((List.replicate (m + 1) (1 : Int)).flatMap eInt), row (some ⟨b7, 0, none⟩) 1 3 1 1 [.int .i64 1], blk b1 32 [.slice none 0 0, .int .i64 0, .slice none 0 0]]) en_86 rfl rfl (fun w hs => grown_c b4 _ _ _ _ ([] : List Prm) _ ([] : List Syn) pb5 bb6 _ _ (List.replicate (m + 1) (1 : Int)) _ _ w _ (by simp only [List.length_append, List.length_map, List.length_take, List.length_cons, List.length_nil, List.length_replicate, selves_len]; omega) (((((((((hs.pull (.there (.there (.there (.there (.there (.there (.there .here)))))))).pull (.there (.there .here))).pull (.there (.there .here))).pull (.there (.there (.there (.there .here))))).pull (.there (.there (.there (.there .here))))).pull (.there (.there (.there (.there (.there (.there .here))))))).pull (.there (.there (.there (.there (.there (.there .here))))))).pull (.there (.there (.there (.there (.there (.there (.there .here)))))))))) ?_
      rintro ⟨a10, c11⟩
      refine Ops.to rfl ?_
      refine Cd.seq ?_
      refine Cd.seq ?_
      refine Cd.region ?_
      refine Ops.q (q_mv rfl) ?_
      refine Ops.q (q_len esz_52 rfl) ?_
      refine Ops.q (q_mv rfl) ?_
      refine Ops.to rfl ?_
      refine Cd.block ?_
      refine Cd.lp (σ := Nat × Option Addr × Nat) (fun s => s.1 ≤ ls.length ∧ firstE (claE (m : Int)) ((ls.map clP).drop s.1) = firstE (claE (m : Int)) (ls.map clP)) (fun s => [(0, .int .i64 (m : Int)), (1, .slice la ls.length lc), (4, .pointer (some ⟨b1, 0, none⟩)), (6, .pointer (some ⟨b4, 0, none⟩)), (7, .func (.func 86) #[] #[.pointer (some ⟨pb5, 0, none⟩), .pointer (some ⟨bb6, 0, none⟩)]), (36, .slice la ls.length lc), (37, .int .i64 (ls.length : Int)), (38, .int .i64 (s.1 : Int))]) (fun s => [blk b4 114 [.slice s.2.1 (((([] : List Prm) ++ (List.replicate (m + 1) (1 : Int)).map (setTh (onceP 0))) ++ (ls.take s.1).map (fun l : CL => setTh (onceP 0) (max 1 (l.1.2.length : Int)))).length) s.2.2, .int .i64 1, .slice none (([] : List Syn).length) 0], row s.2.1 s.2.2 116 8 (((([] : List Prm) ++ (List.replicate (m + 1) (1 : Int)).map (setTh (onceP 0))) ++ (ls.take s.1).map (fun l : CL => setTh (onceP 0) (max 1 (l.1.2.length : Int)))).length) (((([] : List Prm) ++ (List.replicate (m + 1) (1 : Int)).map (setTh (onceP 0))) ++ (ls.take s.1).map (fun l : CL => setTh (onceP 0) (max 1 (l.1.2.length : Int)))).flatMap ePrm), row none 0 126 4 (([] : List Syn).length) (([] : List Syn).flatMap eSyn), blk pb5 116 (ePrm (onceP 0)), blk bb6 161 [.pointer (some ⟨b4, 0, none⟩)], blk b1 32 [.slice none 0 0, .int .i64 0, .slice none 0 0]]) (fun s => ls.length - s.1) (0, a10, c11) ⟨Nat.zero_le _, rfl⟩ ⟨rfl, rfl, rfl, rfl, rfl, rfl, rfl, rfl, trivial⟩ (fun _ hs => by have h1 := ((((((((hs.pull (.there (.there (.there (.there (.there (.there (.there .here)))))))).pull (.there (.there (.there (.there (.there .here)))))).pull (.there (.there (.there (.there (.there .here)))))).pull (.there (.there (.there (.there (.there .here)))))).pull (.there (.there (.there (.there (.there .here)))))).pull (.there (.there (.there (.there (.there .here)))))).pull (.there (.there (.there (.there (.there (.there .here))))))).drop.pull (.there (.there (.there (.there (.there (.there .here))))))).drop; dsimp only; rw [show ((([] : List Prm) ++ (List.replicate (m + 1) (1 : Int)).map (setTh (onceP 0))) ++ (ls.take 0).map (fun l : CL => setTh (onceP 0) (max 1 (l.1.2.length : Int)))) = (([] : List Prm) ++ (List.replicate (m + 1) (1 : Int)).map (setTh (onceP 0))) from List.append_nil _]; exact h1) ?_
      rintro ⟨k, pa, pc⟩ hI
      dsimp only at hI
      change Cd _ _ _ _ _ _ _ [(0, .int .i64 (m : Int)), (1, .slice la ls.length lc), (4, .pointer (some ⟨b1, 0, none⟩)), (6, .pointer (some ⟨b4, 0, none⟩)), (7, .func (.func 86) #[] #[.pointer (some ⟨pb5, 0, none⟩), .pointer (some ⟨bb6, 0, none⟩)]), (36, .slice la ls.length lc), (37, .int .i64 (ls.length : Int)), (38, .int .i64 (k : Int))] ([blk b4 114 [.slice pa (((([] : List Prm) ++ (List.replicate (m + 1) (1 : Int)).map (setTh (onceP 0))) ++ (ls.take k).map (fun l : CL => setTh (onceP 0) (max 1 (l.1.2.length : Int)))).length) pc, .int .i64 1, .slice none (([] : List Syn).length) 0], row pa pc 116 8 (((([] : List Prm) ++ (List.replicate (m + 1) (1 : Int)).map (setTh (onceP 0))) ++ (ls.take k).map (fun l : CL => setTh (onceP 0) (max 1 (l.1.2.length : Int)))).length) (((([] : List Prm) ++ (List.replicate (m + 1) (1 : Int)).map (setTh (onceP 0))) ++ (ls.take k).map (fun l : CL => setTh (onceP 0) (max 1 (l.1.2.length : Int)))).flatMap ePrm), row none 0 126 4 (([] : List Syn).length) (([] : List Syn).flatMap eSyn), blk pb5 116 (ePrm (onceP 0)), blk bb6 161 [.pointer (some ⟨b4, 0, none⟩)], blk b1 32 [.slice none 0 0, .int .i64 0, .slice none 0 0]])
      have hI1 := hI.1
      refine Cd.seq ?_
      refine Cd.region ?_
      by_cases hk : (k : Int) < (ls.length : Int)
      · refine Ops.q (q_cmp rfl rfl (c_lt hk)) ?_
        obtain ⟨⟨⟨⟨xa, xc⟩, xr⟩, xt⟩, hx⟩ : ∃ x, ls[k]? = some x := ⟨_, List.getElem?_eq_getElem (by omega)⟩
        have hxe : RoL w xa eInt xr := hL.2 _ (List.mem_iff_getElem?.2 ⟨k, hx⟩)
        skip
        have hxq : (ls.map clP)[k]? = some (xr, xt) := by rw [List.getElem?_map, hx]; rfl
        obtain ⟨lb, lo, rfl⟩ := RoL.pos hL.1 eCl_len hx
        refine Ops.to rfl ?_
        refine Cd.seq ?_
        refine Cd.cond_t rfl ?_
        refine Cd.skipTo rfl ?_
        refine Cd.seq ?_
        refine Cd.block ?_
        refine Cd.seq ?_
        refine Cd.region ?_
        refine Ops.q (q_ix (k := k) esz_52 rfl rfl (by omega)) ?_
        refine Ops.q (q_ldRN [.slice xa xr.length xc, .int .i64 xt] isA_55 sz_55 rfl (fun j u hu => hL.1.at eCl_len hx hu)) ?_
        refine Ops.alc [.slice none 0 0, .int .i64 0] zc_55 ?_
        intro b12
        refine Ops.stB [.slice xa xr.length xc, .int .i64 xt] [.slice xa xr.length xc, .int .i64 xt] sz_55 rfl rfl rfl (one rfl) .here rfl rfl ?_
        refine Ops.to rfl ?_
        refine Cd.seq ?_
        refine Cd.seq ?_
        refine Cd.region ?_
        refine Ops.q (q_fa fo_55_0 rfl) ?_
        refine Ops.q (q_ldB isA_26 rfl .here rfl) ?_
        refine Ops.q (q_len esz_26 rfl) ?_
        by_cases hx16 : 16 < (xr.length : Int)
        · refine Ops.q (q_cmp rfl rfl (c_gt hx16)) ?_
          refine Ops.to rfl ?_
          refine Cd.cond_t rfl ?_
          refine Cd.seq ?_
          refine Cd.region ?_
          refine Ops.q (q_bld [.slice none 0 0, .int .i64 0, .slice none 0 0] pls_32 zc_32 rfl rfl) ?_
          refine Ops.stB [.slice none 0 0, .int .i64 0, .slice none 0 0] [.slice none 0 0, .int .i64 0, .slice none 0 0] sz_32 rfl rfl rfl (one rfl) (.there (.there (.there (.there (.there (.there .here)))))) rfl rfl ?_
          refine Ops.q (q_asg rfl) ?_
          refine Ops.to rfl ?_
          refine Cd.rt (fn := Try.f26) [.agg [.slice none 0 0, .int .i64 0, .slice none 0 0].toArray, .int .i64 9] (by with_reducible repeat (first | exact rq_here | apply rq_then | apply rq_block)) rfl ⟨⟨_, _, rfl, fun _ hs => run_loadN isA_32 sz_32 (fun o u hu => Sat.atB (.there (.there (.there (.there (.there (.there .here)))))) (by rw [Nat.zero_add]; exact hu) hs)⟩, rfl, trivial⟩ ?_
          intro w' hs'
          have h8 : claE (m : Int) (xr, xt) = 9 := claE_9 (by show 16 < xr.length; omega)
          have h9 : firstE (claE (m : Int)) (ls.map clP) = 9 := by rw [← hI.2, firstE_stop hxq (by rw [h8]; decide), h8]
          rw [show hornP (m : Int) (ls.map clP) = .error (9) by unfold hornP; rw [if_pos h2, if_neg (by rw [List.length_map]; omega), h9, if_pos (by decide)]]
          exact ⟨rfl, hs'.none⟩
        · refine Ops.q (q_cmp rfl rfl (c_ngt (by omega))) ?_
          refine Ops.to rfl ?_
          refine Cd.cond_f rfl ?_
          refine Cd.skipTo rfl ?_
          refine Cd.seq ?_
          refine Cd.seq ?_
          refine Cd.draw rfl (by kernel_rfl) (.cons .here .nil) ?_
          intro F13 St14 hP15 hF16 hR17
          refine Dr.q (i := 0) hP15 rfl (by kernel_rfl) (q_fa fo_55_0 rfl) ?_
          refine Dr.q (i := 1) hP15 rfl (by kernel_rfl) (q_ldB isA_26 rfl .here rfl) ?_
          refine Dr.q (i := 2) hP15 rfl (by kernel_rfl) (q_mv rfl) ?_
          refine Dr.e (i := 3) rfl (by kernel_rfl) ?_
          refine Ops.cl (α := Nat) (v := fun b => .func (.func 92) #[] #[.pointer (some ⟨b, 0, none⟩)]) (B := fun b => [blk b 3 [.int .i64 (m : Int)]]) en_65 rfl (fun w hs => below_c (m : Int) w) ?_
          intro bl18
          refine Dr.back (fun _ hs => hF16 (.there .here) hs) ?_
          refine Dr.e (i := 4) rfl (by kernel_rfl) ?_
          refine Ops.cm (α := Unit) (v := fun _ => .int .i64 (setE (m : Int) xr)) (A' := fun _ => [blk bl18 3 [.int .i64 (m : Int)], F13, blk b4 114 [.slice pa (((([] : List Prm) ++ (List.replicate (m + 1) (1 : Int)).map (setTh (onceP 0))) ++ (ls.take k).map (fun l : CL => setTh (onceP 0) (max 1 (l.1.2.length : Int)))).length) pc, .int .i64 1, .slice none (([] : List Syn).length) 0], row pa pc 116 8 (((([] : List Prm) ++ (List.replicate (m + 1) (1 : Int)).map (setTh (onceP 0))) ++ (ls.take k).map (fun l : CL => setTh (onceP 0) (max 1 (l.1.2.length : Int)))).length) (((([] : List Prm) ++ (List.replicate (m + 1) (1 : Int)).map (setTh (onceP 0))) ++ (ls.take k).map (fun l : CL => setTh (onceP 0) (max 1 (l.1.2.length : Int)))).flatMap ePrm), row none 0 126 4 (([] : List Syn).length) (([] : List Syn).flatMap eSyn), blk pb5 116 (ePrm (onceP 0)), blk bb6 161 [.pointer (some ⟨b4, 0, none⟩)], blk b1 32 [.slice none 0 0, .int .i64 0, .slice none 0 0]]) en_64 rfl (fun w hs => (different_c bl18 _ _ xr _ _ w _ hxe (by omega) (by omega) (((((((((hs.pull (.there (.there (.there (.there (.there (.there (.there .here)))))))).pull (.there (.there (.there (.there (.there (.there (.there .here)))))))).pull (.there (.there (.there (.there (.there (.there (.there .here)))))))).pull (.there (.there (.there (.there (.there (.there (.there .here)))))))).pull (.there (.there (.there (.there (.there (.there (.there .here)))))))).pull (.there (.there (.there (.there (.there (.there (.there .here)))))))).pull (.there (.there (.there (.there (.there (.there (.there .here)))))))).pull (.there (.there (.there (.there (.there (.there (.there .here)))))))))).mono fun e w' h => ⟨(), h.1, h.2⟩) ?_
          intro _
          refine Dr.back (fun _ hs => hF16 (.there .here) hs) ?_
          refine Dr.tail 5 (by kernel_rfl) ?_
          refine Ops.sat ?_ (fun _ hs => hR17 (.there .here) hs)
          refine Ops.q (q_asg rfl) ?_
          refine Ops.to rfl ?_
          refine Cd.seq ?_
          refine Cd.region ?_
          refine Ops.q (q_mv rfl) ?_
          by_cases hset : setE (m : Int) xr = 0
          · refine Ops.q (q_cmp rfl rfl (c_nne hset)) ?_
            refine Ops.to rfl ?_
            refine Cd.cond_f rfl ?_
            refine Cd.skipTo rfl ?_
            refine Cd.seq ?_
            refine Cd.seq ?_
            refine Cd.region ?_
            refine Ops.q (q_fa fo_55_1 rfl) ?_
            refine Ops.q (q_ldB isA_3 rfl .here rfl) ?_
            refine Ops.q (q_mv rfl) ?_
            refine Ops.q (q_ar (v := (m : Int) - 1) rfl rfl (a_sub (by omega))) ?_
            by_cases h19 : wi xt (-1) ((m : Int) - 1)
            · refine Ops.cp en_57 rfl (fun w hs => dT (in_c _ _ _ w) h19) ?_
              refine Ops.q (q_not rfl) ?_
              refine Ops.to rfl ?_
              refine Cd.cond_f rfl ?_
              refine Cd.skipTo rfl ?_
              refine Cd.region ?_
              refine Ops.q (q_mv rfl) ?_
              refine Ops.q (q_fa fo_55_0 rfl) ?_
              refine Ops.q (q_ldB isA_26 rfl .here rfl) ?_
              refine Ops.q (q_len esz_26 rfl) ?_
              refine Ops.q (q_max rfl rfl) ?_
              refine Ops.lit [.int .i64 (max 1 (xr.length : Int))] el_26 zsb_3 rfl rfl ⟨by decide, by decide⟩ rfl ?_
              intro b20
              refine Ops.cv (α := Option Addr × Nat) (k := 86) (first := []) (caps := [.pointer (some ⟨pb5, 0, none⟩), .pointer (some ⟨bb6, 0, none⟩)]) (vs := [.slice (some ⟨b20, 0, none⟩) ([max 1 (xr.length : Int)].length) 1]) (v := fun _ => .tuple #[]) (A' := fun p => [blk b4 114 [.slice p.1 ((((([] : List Prm) ++ (List.replicate (m + 1) (1 : Int)).map (setTh (onceP 0))) ++ (ls.take k).map (fun l : CL => setTh (onceP 0) (max 1 (l.1.2.length : Int)))) ++ [max 1 (xr.length : Int)].map (setTh (onceP 0))).length) p.2, .int .i64 1, .slice none (([] : List Syn).length) 0], row p.1 p.2 116 8 ((((([] : List Prm) ++ (List.replicate (m + 1) (1 : Int)).map (setTh (onceP 0))) ++ (ls.take k).map (fun l : CL => setTh (onceP 0) (max 1 (l.1.2.length : Int)))) ++ [max 1 (xr.length : Int)].map (setTh (onceP 0))).length) ((((([] : List Prm) ++ (List.replicate (m + 1) (1 : Int)).map (setTh (onceP 0))) ++ (ls.take k).map (fun l : CL => setTh (onceP 0) (max 1 (l.1.2.length : Int)))) ++ [max 1 (xr.length : Int)].map (setTh (onceP 0))).flatMap ePrm), row none 0 126 4 (([] : List Syn).length) (([] : List Syn).flatMap eSyn), blk pb5 116 (ePrm (onceP 0)), blk bb6 161 [.pointer (some ⟨b4, 0, none⟩)], row (some ⟨b20, 0, none⟩) 1 3 1 ([max 1 (xr.length : Int)].length) ([max 1 (xr.length : Int)].flatMap eInt), blk b12 55 [.slice xa xr.length xc, .int .i64 xt], blk bl18 3 [.int .i64 (m : Int)], blk b1 32 [.slice none 0 0, .int .i64 0, .slice none 0 0]]) en_86 rfl rfl (fun w hs => grown_c b4 _ _ _ _ ((([] : List Prm) ++ (List.replicate (m + 1) (1 : Int)).map (setTh (onceP 0))) ++ (ls.take k).map (fun l : CL => setTh (onceP 0) (max 1 (l.1.2.length : Int)))) _ ([] : List Syn) pb5 bb6 _ _ [max 1 (xr.length : Int)] _ _ w _ (by simp only [List.length_append, List.length_map, List.length_take, List.length_cons, List.length_nil, List.length_replicate, selves_len]; omega) ((((((((((hs.pull (.there (.there (.there (.there (.there (.there (.there (.there .here))))))))).pull (.there (.there (.there .here)))).pull (.there (.there (.there .here)))).pull (.there (.there (.there .here)))).pull (.there (.there (.there (.there (.there (.there (.there (.there .here))))))))).pull (.there (.there (.there (.there (.there (.there (.there (.there .here))))))))).pull (.there (.there (.there (.there (.there (.there (.there (.there .here))))))))).pull (.there (.there (.there (.there (.there (.there (.there (.there .here))))))))).pull (.there (.there (.there (.there (.there (.there (.there (.there .here))))))))))) ?_
              rintro ⟨a21, c22⟩
              refine Ops.to rfl ?_
              refine Cd.region ?_
              refine Ops.q (q_ar rfl rfl (a_inc (by omega))) ?_
              refine Ops.q (q_mv rfl) ?_
              refine Ops.rnd ((k + 1, a21, c22)) rfl (by dsimp only; exact (⟨by omega, by rw [← hI.2]; exact (firstE_step hxq (claE_0 (by show ¬ 16 < xr.length; omega) hset h19)).symm⟩)) (by dsimp only; omega) ⟨rfl, rfl, rfl, rfl, rfl, rfl, rfl, rfl, trivial⟩ (fun _ hs => by have h1 := (((((((((hs.pull (.there (.there (.there (.there (.there (.there (.there (.there .here))))))))).pull (.there (.there (.there (.there (.there .here)))))).pull (.there (.there (.there (.there (.there .here)))))).pull (.there (.there (.there (.there (.there .here)))))).pull (.there (.there (.there (.there (.there .here)))))).pull (.there (.there (.there (.there (.there .here)))))).pull (.there (.there (.there (.there (.there (.there .here))))))).drop.pull (.there (.there (.there (.there (.there (.there .here))))))).drop.pull (.there (.there (.there (.there (.there (.there .here))))))).drop; dsimp only; rw [mapT _ hx, ← List.append_assoc]; exact h1) 
            · refine Ops.cp en_57 rfl (fun w hs => dF (in_c _ _ _ w) h19) ?_
              refine Ops.q (q_not rfl) ?_
              refine Ops.to rfl ?_
              refine Cd.cond_t rfl ?_
              refine Cd.seq ?_
              refine Cd.region ?_
              refine Ops.q (q_bld [.slice none 0 0, .int .i64 0, .slice none 0 0] pls_32 zc_32 rfl rfl) ?_
              refine Ops.stB [.slice none 0 0, .int .i64 0, .slice none 0 0] [.slice none 0 0, .int .i64 0, .slice none 0 0] sz_32 rfl rfl rfl (one rfl) (.there (.there (.there (.there (.there (.there (.there .here))))))) rfl rfl ?_
              refine Ops.q (q_asg rfl) ?_
              refine Ops.to rfl ?_
              refine Cd.rt (fn := Try.f26) [.agg [.slice none 0 0, .int .i64 0, .slice none 0 0].toArray, .int .i64 4] (by with_reducible repeat (first | exact rq_here | apply rq_then | apply rq_block)) rfl ⟨⟨_, _, rfl, fun _ hs => run_loadN isA_32 sz_32 (fun o u hu => Sat.atB (.there (.there (.there (.there (.there (.there (.there .here))))))) (by rw [Nat.zero_add]; exact hu) hs)⟩, rfl, trivial⟩ ?_
              intro w' hs'
              have h8 : claE (m : Int) (xr, xt) = 4 := claE_4 (by show ¬ 16 < xr.length; omega) hset h19
              have h9 : firstE (claE (m : Int)) (ls.map clP) = 4 := by rw [← hI.2, firstE_stop hxq (by rw [h8]; decide), h8]
              rw [show hornP (m : Int) (ls.map clP) = .error (4) by unfold hornP; rw [if_pos h2, if_neg (by rw [List.length_map]; omega), h9, if_pos (by decide)]]
              exact ⟨rfl, hs'.none⟩
          · refine Ops.q (q_cmp rfl rfl (c_ne hset)) ?_
            refine Ops.to rfl ?_
            refine Cd.cond_t rfl ?_
            refine Cd.seq ?_
            refine Cd.region ?_
            refine Ops.q (q_bld [.slice none 0 0, .int .i64 0, .slice none 0 0] pls_32 zc_32 rfl rfl) ?_
            refine Ops.q (q_mv rfl) ?_
            refine Ops.stB [.slice none 0 0, .int .i64 0, .slice none 0 0] [.slice none 0 0, .int .i64 0, .slice none 0 0] sz_32 rfl rfl rfl (one rfl) (.there (.there (.there (.there (.there (.there (.there .here))))))) rfl rfl ?_
            refine Ops.q (q_asg rfl) ?_
            refine Ops.to rfl ?_
            refine Cd.rt (fn := Try.f26) [.agg [.slice none 0 0, .int .i64 0, .slice none 0 0].toArray, .int .i64 (setE (m : Int) xr)] (by with_reducible repeat (first | exact rq_here | apply rq_then | apply rq_block)) rfl ⟨⟨_, _, rfl, fun _ hs => run_loadN isA_32 sz_32 (fun o u hu => Sat.atB (.there (.there (.there (.there (.there (.there (.there .here))))))) (by rw [Nat.zero_add]; exact hu) hs)⟩, rfl, trivial⟩ ?_
            intro w' hs'
            have h8 : claE (m : Int) (xr, xt) = setE (m : Int) xr := claE_s (by show ¬ 16 < xr.length; omega) hset
            have h9 : firstE (claE (m : Int)) (ls.map clP) = setE (m : Int) xr := by rw [← hI.2, firstE_stop hxq (by rw [h8]; exact hset), h8]
            rw [show hornP (m : Int) (ls.map clP) = .error (setE (m : Int) xr) by unfold hornP; rw [if_pos h2, if_neg (by rw [List.length_map]; omega), h9, if_pos (by exact hset)]]
            exact ⟨rfl, hs'.none⟩
      · refine Ops.q (q_cmp rfl rfl (c_nlt (by omega))) ?_
        have h9 : firstE (claE (m : Int)) (ls.map clP) = 0 := by rw [← hI.2, firstE_end (by rw [List.length_map]; omega)]
        have h16 : ∀ x ∈ (ls.map clP), x.1.length ≤ 16 := fun x hx => claE_16 (firstE_zero h9 x hx)
        refine Ops.to rfl ?_
        refine Cd.seq ?_
        refine Cd.cond_f rfl ?_
        refine Cd.exitTo rfl ?_
        refine Cd.seq ?_
        refine Cd.region ?_
        refine Ops.cm (α := Option Addr × Nat) (v := fun _ => .tuple #[]) (A' := fun p => [blk b4 114 [.slice pa (((([] : List Prm) ++ (List.replicate (m + 1) (1 : Int)).map (setTh (onceP 0))) ++ (ls.take k).map (fun l : CL => setTh (onceP 0) (max 1 (l.1.2.length : Int)))).length) pc, .int .i64 1, .slice p.1 ((([] : List Syn) ++ selvesFrom 0 ((([] : List Prm) ++ (List.replicate (m + 1) (1 : Int)).map (setTh (onceP 0))) ++ (ls.take k).map (fun l : CL => setTh (onceP 0) (max 1 (l.1.2.length : Int)))).length).length) p.2], row pa pc 116 8 (((([] : List Prm) ++ (List.replicate (m + 1) (1 : Int)).map (setTh (onceP 0))) ++ (ls.take k).map (fun l : CL => setTh (onceP 0) (max 1 (l.1.2.length : Int)))).length) (((([] : List Prm) ++ (List.replicate (m + 1) (1 : Int)).map (setTh (onceP 0))) ++ (ls.take k).map (fun l : CL => setTh (onceP 0) (max 1 (l.1.2.length : Int)))).flatMap ePrm), row p.1 p.2 126 4 ((([] : List Syn) ++ selvesFrom 0 ((([] : List Prm) ++ (List.replicate (m + 1) (1 : Int)).map (setTh (onceP 0))) ++ (ls.take k).map (fun l : CL => setTh (onceP 0) (max 1 (l.1.2.length : Int)))).length).length) ((([] : List Syn) ++ selvesFrom 0 ((([] : List Prm) ++ (List.replicate (m + 1) (1 : Int)).map (setTh (onceP 0))) ++ (ls.take k).map (fun l : CL => setTh (onceP 0) (max 1 (l.1.2.length : Int)))).length).flatMap eSyn), blk pb5 116 (ePrm (onceP 0)), blk bb6 161 [.pointer (some ⟨b4, 0, none⟩)], blk b1 32 [.slice none 0 0, .int .i64 0, .slice none 0 0]]) en_61 rfl (fun w hs => selves_c _ _ _ _ _ ((([] : List Prm) ++ (List.replicate (m + 1) (1 : Int)).map (setTh (onceP 0))) ++ (ls.take k).map (fun l : CL => setTh (onceP 0) (max 1 (l.1.2.length : Int)))) _ ([] : List Syn) _ w _ (by simp only [List.length_append, List.length_map, List.length_take, List.length_cons, List.length_nil, List.length_replicate, selves_len]; omega) (by simp only [List.length_append, List.length_map, List.length_take, List.length_cons, List.length_nil, List.length_replicate, selves_len]; omega) (((((((hs.pull (.there (.there (.there (.there (.there .here)))))).pull (.there (.there (.there (.there (.there .here)))))).pull (.there (.there (.there (.there (.there .here)))))).pull (.there (.there (.there (.there (.there .here)))))).pull (.there (.there (.there (.there (.there .here)))))).pull (.there (.there (.there (.there (.there .here)))))))) ?_
        rintro ⟨a23, c24⟩
        refine Ops.to rfl ?_
        refine Cd.seq ?_
        refine Cd.seq ?_
        refine Cd.region ?_
        refine Ops.q (q_mv rfl) ?_
        refine Ops.q (q_len esz_52 rfl) ?_
        refine Ops.q (q_mv rfl) ?_
        refine Ops.to rfl ?_
        refine Cd.block ?_
        refine Cd.lp (σ := Nat × Option Addr × Nat) (fun s => s.1 ≤ ls.length) (fun s => [(0, .int .i64 (m : Int)), (4, .pointer (some ⟨b1, 0, none⟩)), (6, .pointer (some ⟨b4, 0, none⟩)), (72, .slice la ls.length lc), (73, .int .i64 (ls.length : Int)), (74, .int .i64 (s.1 : Int))]) (fun s => [blk b4 114 [.slice pa (((([] : List Prm) ++ (List.replicate (m + 1) (1 : Int)).map (setTh (onceP 0))) ++ (ls.take k).map (fun l : CL => setTh (onceP 0) (max 1 (l.1.2.length : Int)))).length) pc, .int .i64 1, .slice s.2.1 (((([] : List Syn) ++ selvesFrom 0 ((([] : List Prm) ++ (List.replicate (m + 1) (1 : Int)).map (setTh (onceP 0))) ++ (ls.take k).map (fun l : CL => setTh (onceP 0) (max 1 (l.1.2.length : Int)))).length) ++ clTo m (ls.map clP) s.1).length) s.2.2], row pa pc 116 8 (((([] : List Prm) ++ (List.replicate (m + 1) (1 : Int)).map (setTh (onceP 0))) ++ (ls.take k).map (fun l : CL => setTh (onceP 0) (max 1 (l.1.2.length : Int)))).length) (((([] : List Prm) ++ (List.replicate (m + 1) (1 : Int)).map (setTh (onceP 0))) ++ (ls.take k).map (fun l : CL => setTh (onceP 0) (max 1 (l.1.2.length : Int)))).flatMap ePrm), row s.2.1 s.2.2 126 4 (((([] : List Syn) ++ selvesFrom 0 ((([] : List Prm) ++ (List.replicate (m + 1) (1 : Int)).map (setTh (onceP 0))) ++ (ls.take k).map (fun l : CL => setTh (onceP 0) (max 1 (l.1.2.length : Int)))).length) ++ clTo m (ls.map clP) s.1).length) (((([] : List Syn) ++ selvesFrom 0 ((([] : List Prm) ++ (List.replicate (m + 1) (1 : Int)).map (setTh (onceP 0))) ++ (ls.take k).map (fun l : CL => setTh (onceP 0) (max 1 (l.1.2.length : Int)))).length) ++ clTo m (ls.map clP) s.1).flatMap eSyn), blk b1 32 [.slice none 0 0, .int .i64 0, .slice none 0 0]]) (fun s => ls.length - s.1) (0, a23, c24) (Nat.zero_le _) ⟨rfl, rfl, rfl, rfl, rfl, rfl, trivial⟩ (fun _ hs => by have h1 := ((((((hs.pull (.there (.there (.there (.there (.there .here)))))).pull (.there (.there (.there .here)))).pull (.there (.there (.there .here)))).pull (.there (.there (.there .here)))).pull (.there (.there (.there (.there .here))))).drop.pull (.there (.there (.there (.there .here))))).drop; dsimp only; rw [show ((([] : List Syn) ++ selvesFrom 0 ((([] : List Prm) ++ (List.replicate (m + 1) (1 : Int)).map (setTh (onceP 0))) ++ (ls.take k).map (fun l : CL => setTh (onceP 0) (max 1 (l.1.2.length : Int)))).length) ++ clTo m (ls.map clP) 0) = (([] : List Syn) ++ selvesFrom 0 ((([] : List Prm) ++ (List.replicate (m + 1) (1 : Int)).map (setTh (onceP 0))) ++ (ls.take k).map (fun l : CL => setTh (onceP 0) (max 1 (l.1.2.length : Int)))).length) from List.append_nil _]; exact h1) ?_
        rintro ⟨q, qa, qc⟩ hI
        dsimp only at hI
        change Cd _ _ _ _ _ _ _ [(0, .int .i64 (m : Int)), (4, .pointer (some ⟨b1, 0, none⟩)), (6, .pointer (some ⟨b4, 0, none⟩)), (72, .slice la ls.length lc), (73, .int .i64 (ls.length : Int)), (74, .int .i64 (q : Int))] ([blk b4 114 [.slice pa (((([] : List Prm) ++ (List.replicate (m + 1) (1 : Int)).map (setTh (onceP 0))) ++ (ls.take k).map (fun l : CL => setTh (onceP 0) (max 1 (l.1.2.length : Int)))).length) pc, .int .i64 1, .slice qa (((([] : List Syn) ++ selvesFrom 0 ((([] : List Prm) ++ (List.replicate (m + 1) (1 : Int)).map (setTh (onceP 0))) ++ (ls.take k).map (fun l : CL => setTh (onceP 0) (max 1 (l.1.2.length : Int)))).length) ++ clTo m (ls.map clP) q).length) qc], row pa pc 116 8 (((([] : List Prm) ++ (List.replicate (m + 1) (1 : Int)).map (setTh (onceP 0))) ++ (ls.take k).map (fun l : CL => setTh (onceP 0) (max 1 (l.1.2.length : Int)))).length) (((([] : List Prm) ++ (List.replicate (m + 1) (1 : Int)).map (setTh (onceP 0))) ++ (ls.take k).map (fun l : CL => setTh (onceP 0) (max 1 (l.1.2.length : Int)))).flatMap ePrm), row qa qc 126 4 (((([] : List Syn) ++ selvesFrom 0 ((([] : List Prm) ++ (List.replicate (m + 1) (1 : Int)).map (setTh (onceP 0))) ++ (ls.take k).map (fun l : CL => setTh (onceP 0) (max 1 (l.1.2.length : Int)))).length) ++ clTo m (ls.map clP) q).length) (((([] : List Syn) ++ selvesFrom 0 ((([] : List Prm) ++ (List.replicate (m + 1) (1 : Int)).map (setTh (onceP 0))) ++ (ls.take k).map (fun l : CL => setTh (onceP 0) (max 1 (l.1.2.length : Int)))).length) ++ clTo m (ls.map clP) q).flatMap eSyn), blk b1 32 [.slice none 0 0, .int .i64 0, .slice none 0 0]])
        refine Cd.seq ?_
        refine Cd.region ?_
        by_cases hq0 : (q : Int) < (ls.length : Int)
        · refine Ops.q (q_cmp rfl rfl (c_lt hq0)) ?_
          obtain ⟨⟨⟨⟨xa, xc⟩, xr⟩, xt⟩, hx⟩ : ∃ x, ls[q]? = some x := ⟨_, List.getElem?_eq_getElem (by omega)⟩
          have hxe : RoL w xa eInt xr := hL.2 _ (List.mem_iff_getElem?.2 ⟨q, hx⟩)
          skip
          have hxq : (ls.map clP)[q]? = some (xr, xt) := by rw [List.getElem?_map, hx]; rfl
          obtain ⟨lb, lo, rfl⟩ := RoL.pos hL.1 eCl_len hx
          have hcl := clTo_len (m := m) h16 q (by rw [List.length_map]; omega)
          have hxm := h16 _ (List.mem_iff_getElem?.2 ⟨q, hxq⟩)
          dsimp only at hxm
          refine Ops.to rfl ?_
          refine Cd.seq ?_
          refine Cd.cond_t rfl ?_
          refine Cd.skipTo rfl ?_
          refine Cd.seq ?_
          refine Cd.block ?_
          refine Cd.seq ?_
          refine Cd.region ?_
          refine Ops.q (q_mv rfl) ?_
          refine Ops.q (q_ix (k := q) esz_52 rfl rfl (by omega)) ?_
          refine Ops.q (q_ldRN [.slice xa xr.length xc, .int .i64 xt] isA_55 sz_55 rfl (fun j u hu => hL.1.at eCl_len hx hu)) ?_
          refine Ops.alc [.slice none 0 0, .int .i64 0] zc_55 ?_
          intro b25
          refine Ops.q (q_asg rfl) ?_
          refine Ops.stB [.slice xa xr.length xc, .int .i64 xt] [.slice xa xr.length xc, .int .i64 xt] sz_55 rfl rfl rfl (one rfl) .here rfl rfl ?_
          refine Ops.to rfl ?_
          refine Cd.seq ?_
          refine Cd.seq ?_
          refine Cd.region ?_
          refine Ops.q (q_fa fo_55_0 rfl) ?_
          refine Ops.q (q_ldB isA_26 rfl .here rfl) ?_
          refine Ops.q (q_len esz_26 rfl) ?_
          refine Ops.q (q_mv rfl) ?_
          refine Ops.to rfl ?_
          refine Cd.block ?_
          refine Cd.lp (σ := Nat × Option Addr × Nat) (fun s => s.1 ≤ xr.length) (fun s => [(0, .int .i64 (m : Int)), (4, .pointer (some ⟨b1, 0, none⟩)), (6, .pointer (some ⟨b4, 0, none⟩)), (72, .slice (some ⟨lb, lo, none⟩) ls.length lc), (73, .int .i64 (ls.length : Int)), (74, .int .i64 (q : Int)), (11, .int .i64 (q : Int)), (12, .pointer (some ⟨b25, 0, none⟩)), (80, .slice xa xr.length xc), (81, .int .i64 (xr.length : Int)), (82, .int .i64 (s.1 : Int))]) (fun s => [blk b4 114 [.slice pa (((([] : List Prm) ++ (List.replicate (m + 1) (1 : Int)).map (setTh (onceP 0))) ++ (ls.take k).map (fun l : CL => setTh (onceP 0) (max 1 (l.1.2.length : Int)))).length) pc, .int .i64 1, .slice s.2.1 ((((([] : List Syn) ++ selvesFrom 0 ((([] : List Prm) ++ (List.replicate (m + 1) (1 : Int)).map (setTh (onceP 0))) ++ (ls.take k).map (fun l : CL => setTh (onceP 0) (max 1 (l.1.2.length : Int)))).length) ++ clTo m (ls.map clP) q) ++ (xr.take s.1).map (fun t : Int => (⟨t, ((m + 1 + q : Nat) : Int), 1, 1⟩ : Syn))).length) s.2.2], row pa pc 116 8 (((([] : List Prm) ++ (List.replicate (m + 1) (1 : Int)).map (setTh (onceP 0))) ++ (ls.take k).map (fun l : CL => setTh (onceP 0) (max 1 (l.1.2.length : Int)))).length) (((([] : List Prm) ++ (List.replicate (m + 1) (1 : Int)).map (setTh (onceP 0))) ++ (ls.take k).map (fun l : CL => setTh (onceP 0) (max 1 (l.1.2.length : Int)))).flatMap ePrm), row s.2.1 s.2.2 126 4 ((((([] : List Syn) ++ selvesFrom 0 ((([] : List Prm) ++ (List.replicate (m + 1) (1 : Int)).map (setTh (onceP 0))) ++ (ls.take k).map (fun l : CL => setTh (onceP 0) (max 1 (l.1.2.length : Int)))).length) ++ clTo m (ls.map clP) q) ++ (xr.take s.1).map (fun t : Int => (⟨t, ((m + 1 + q : Nat) : Int), 1, 1⟩ : Syn))).length) ((((([] : List Syn) ++ selvesFrom 0 ((([] : List Prm) ++ (List.replicate (m + 1) (1 : Int)).map (setTh (onceP 0))) ++ (ls.take k).map (fun l : CL => setTh (onceP 0) (max 1 (l.1.2.length : Int)))).length) ++ clTo m (ls.map clP) q) ++ (xr.take s.1).map (fun t : Int => (⟨t, ((m + 1 + q : Nat) : Int), 1, 1⟩ : Syn))).flatMap eSyn), blk b25 55 [.slice xa xr.length xc, .int .i64 xt], blk b1 32 [.slice none 0 0, .int .i64 0, .slice none 0 0]]) (fun s => xr.length - s.1) (0, qa, qc) (Nat.zero_le _) ⟨rfl, rfl, rfl, rfl, rfl, rfl, rfl, rfl, rfl, rfl, rfl, trivial⟩ (fun _ hs => by have h1 := (((((hs.pull (.there (.there (.there (.there .here))))).pull (.there .here)).pull (.there (.there (.there (.there .here))))).pull (.there (.there (.there (.there .here))))).pull (.there (.there (.there (.there .here))))); dsimp only; rw [show (((([] : List Syn) ++ selvesFrom 0 ((([] : List Prm) ++ (List.replicate (m + 1) (1 : Int)).map (setTh (onceP 0))) ++ (ls.take k).map (fun l : CL => setTh (onceP 0) (max 1 (l.1.2.length : Int)))).length) ++ clTo m (ls.map clP) q) ++ (xr.take 0).map (fun t : Int => (⟨t, ((m + 1 + q : Nat) : Int), 1, 1⟩ : Syn))) = ((([] : List Syn) ++ selvesFrom 0 ((([] : List Prm) ++ (List.replicate (m + 1) (1 : Int)).map (setTh (onceP 0))) ++ (ls.take k).map (fun l : CL => setTh (onceP 0) (max 1 (l.1.2.length : Int)))).length) ++ clTo m (ls.map clP) q) from List.append_nil _]; exact h1) ?_
          rintro ⟨j, ra, rc⟩ hI
          dsimp only at hI
          change Cd _ _ _ _ _ _ _ [(0, .int .i64 (m : Int)), (4, .pointer (some ⟨b1, 0, none⟩)), (6, .pointer (some ⟨b4, 0, none⟩)), (72, .slice (some ⟨lb, lo, none⟩) ls.length lc), (73, .int .i64 (ls.length : Int)), (74, .int .i64 (q : Int)), (11, .int .i64 (q : Int)), (12, .pointer (some ⟨b25, 0, none⟩)), (80, .slice xa xr.length xc), (81, .int .i64 (xr.length : Int)), (82, .int .i64 (j : Int))] ([blk b4 114 [.slice pa (((([] : List Prm) ++ (List.replicate (m + 1) (1 : Int)).map (setTh (onceP 0))) ++ (ls.take k).map (fun l : CL => setTh (onceP 0) (max 1 (l.1.2.length : Int)))).length) pc, .int .i64 1, .slice ra ((((([] : List Syn) ++ selvesFrom 0 ((([] : List Prm) ++ (List.replicate (m + 1) (1 : Int)).map (setTh (onceP 0))) ++ (ls.take k).map (fun l : CL => setTh (onceP 0) (max 1 (l.1.2.length : Int)))).length) ++ clTo m (ls.map clP) q) ++ (xr.take j).map (fun t : Int => (⟨t, ((m + 1 + q : Nat) : Int), 1, 1⟩ : Syn))).length) rc], row pa pc 116 8 (((([] : List Prm) ++ (List.replicate (m + 1) (1 : Int)).map (setTh (onceP 0))) ++ (ls.take k).map (fun l : CL => setTh (onceP 0) (max 1 (l.1.2.length : Int)))).length) (((([] : List Prm) ++ (List.replicate (m + 1) (1 : Int)).map (setTh (onceP 0))) ++ (ls.take k).map (fun l : CL => setTh (onceP 0) (max 1 (l.1.2.length : Int)))).flatMap ePrm), row ra rc 126 4 ((((([] : List Syn) ++ selvesFrom 0 ((([] : List Prm) ++ (List.replicate (m + 1) (1 : Int)).map (setTh (onceP 0))) ++ (ls.take k).map (fun l : CL => setTh (onceP 0) (max 1 (l.1.2.length : Int)))).length) ++ clTo m (ls.map clP) q) ++ (xr.take j).map (fun t : Int => (⟨t, ((m + 1 + q : Nat) : Int), 1, 1⟩ : Syn))).length) ((((([] : List Syn) ++ selvesFrom 0 ((([] : List Prm) ++ (List.replicate (m + 1) (1 : Int)).map (setTh (onceP 0))) ++ (ls.take k).map (fun l : CL => setTh (onceP 0) (max 1 (l.1.2.length : Int)))).length) ++ clTo m (ls.map clP) q) ++ (xr.take j).map (fun t : Int => (⟨t, ((m + 1 + q : Nat) : Int), 1, 1⟩ : Syn))).flatMap eSyn), blk b25 55 [.slice xa xr.length xc, .int .i64 xt], blk b1 32 [.slice none 0 0, .int .i64 0, .slice none 0 0]])
          refine Cd.seq ?_
          refine Cd.region ?_
          by_cases hj : (j : Int) < (xr.length : Int)
          · refine Ops.q (q_cmp rfl rfl (c_lt hj)) ?_
            obtain ⟨x26, hx27⟩ : ∃ x, xr[j]? = some x := ⟨_, List.getElem?_eq_getElem (by omega)⟩
            obtain ⟨ab28, ao29, rfl⟩ := RoL.pos hxe eInt_len hx27
            refine Ops.to rfl ?_
            refine Cd.seq ?_
            refine Cd.cond_t rfl ?_
            refine Cd.skipTo rfl ?_
            refine Cd.seq ?_
            refine Cd.block ?_
            refine Cd.seq ?_
            refine Cd.region ?_
            refine Ops.q (q_ix (k := j) esz_26 rfl rfl (by omega)) ?_
            refine Ops.q (q_ldR isA_3 rfl (hxe.at0 eInt_len hx27 rfl)) ?_
            refine Ops.q (q_asg rfl) ?_
            refine Ops.to rfl ?_
            refine Cd.region ?_
            refine Ops.q (q_mv rfl) ?_
            refine Ops.q (q_mv rfl) ?_
            refine Ops.q (q_ar (v := ((m + 1 : Nat) : Int)) rfl rfl (a_inc (by omega))) ?_
            refine Ops.q (q_mv rfl) ?_
            refine Ops.q (q_ar (v := ((m + 1 + q : Nat) : Int)) rfl rfl ((by rw [a_add (by omega)]; rfl))) ?_
            refine Ops.cm (α := Option Addr × Nat) (v := fun _ => .tuple #[]) (A' := fun p => [blk b4 114 [.slice pa (((([] : List Prm) ++ (List.replicate (m + 1) (1 : Int)).map (setTh (onceP 0))) ++ (ls.take k).map (fun l : CL => setTh (onceP 0) (max 1 (l.1.2.length : Int)))).length) pc, .int .i64 1, .slice p.1 (((((([] : List Syn) ++ selvesFrom 0 ((([] : List Prm) ++ (List.replicate (m + 1) (1 : Int)).map (setTh (onceP 0))) ++ (ls.take k).map (fun l : CL => setTh (onceP 0) (max 1 (l.1.2.length : Int)))).length) ++ clTo m (ls.map clP) q) ++ (xr.take j).map (fun t : Int => (⟨t, ((m + 1 + q : Nat) : Int), 1, 1⟩ : Syn))) ++ [(⟨x26, ((m + 1 + q : Nat) : Int), 1, 1⟩ : Syn)]).length) p.2], row pa pc 116 8 (((([] : List Prm) ++ (List.replicate (m + 1) (1 : Int)).map (setTh (onceP 0))) ++ (ls.take k).map (fun l : CL => setTh (onceP 0) (max 1 (l.1.2.length : Int)))).length) (((([] : List Prm) ++ (List.replicate (m + 1) (1 : Int)).map (setTh (onceP 0))) ++ (ls.take k).map (fun l : CL => setTh (onceP 0) (max 1 (l.1.2.length : Int)))).flatMap ePrm), row p.1 p.2 126 4 (((((([] : List Syn) ++ selvesFrom 0 ((([] : List Prm) ++ (List.replicate (m + 1) (1 : Int)).map (setTh (onceP 0))) ++ (ls.take k).map (fun l : CL => setTh (onceP 0) (max 1 (l.1.2.length : Int)))).length) ++ clTo m (ls.map clP) q) ++ (xr.take j).map (fun t : Int => (⟨t, ((m + 1 + q : Nat) : Int), 1, 1⟩ : Syn))) ++ [(⟨x26, ((m + 1 + q : Nat) : Int), 1, 1⟩ : Syn)]).length) (((((([] : List Syn) ++ selvesFrom 0 ((([] : List Prm) ++ (List.replicate (m + 1) (1 : Int)).map (setTh (onceP 0))) ++ (ls.take k).map (fun l : CL => setTh (onceP 0) (max 1 (l.1.2.length : Int)))).length) ++ clTo m (ls.map clP) q) ++ (xr.take j).map (fun t : Int => (⟨t, ((m + 1 + q : Nat) : Int), 1, 1⟩ : Syn))) ++ [(⟨x26, ((m + 1 + q : Nat) : Int), 1, 1⟩ : Syn)]).flatMap eSyn), blk b25 55 [.slice (some ⟨ab28, ao29, none⟩) xr.length xc, .int .i64 xt], blk b1 32 [.slice none 0 0, .int .i64 0, .slice none 0 0]]) en_50 rfl (fun w hs => join_c _ _ _ _ _ ((([] : List Prm) ++ (List.replicate (m + 1) (1 : Int)).map (setTh (onceP 0))) ++ (ls.take k).map (fun l : CL => setTh (onceP 0) (max 1 (l.1.2.length : Int)))) _ (((([] : List Syn) ++ selvesFrom 0 ((([] : List Prm) ++ (List.replicate (m + 1) (1 : Int)).map (setTh (onceP 0))) ++ (ls.take k).map (fun l : CL => setTh (onceP 0) (max 1 (l.1.2.length : Int)))).length) ++ clTo m (ls.map clP) q) ++ (xr.take j).map (fun t : Int => (⟨t, ((m + 1 + q : Nat) : Int), 1, 1⟩ : Syn))) x26 ((m + 1 + q : Nat) : Int) 1 1 _ w _ (by simp only [List.length_append, List.length_map, List.length_take, List.length_cons, List.length_nil, List.length_replicate, selves_len]; omega) ((((((hs.pull (.there (.there (.there (.there .here))))).pull (.there (.there (.there (.there .here))))).pull (.there (.there (.there (.there .here))))).pull (.there (.there (.there (.there .here))))).pull (.there (.there (.there (.there .here))))))) ?_
            rintro ⟨a30, c31⟩
            refine Ops.to rfl ?_
            refine Cd.region ?_
            refine Ops.q (q_ar rfl rfl (a_inc (by omega))) ?_
            refine Ops.q (q_mv rfl) ?_
            refine Ops.rnd ((j + 1, a30, c31)) rfl (by dsimp only; exact (by omega)) (by dsimp only; omega) ⟨rfl, rfl, rfl, rfl, rfl, rfl, rfl, rfl, rfl, rfl, rfl, trivial⟩ (fun _ hs => by have h1 := (((((hs.pull (.there (.there (.there (.there .here))))).pull (.there (.there (.there (.there .here))))).pull (.there (.there (.there (.there .here))))).pull (.there (.there (.there (.there .here))))).pull (.there (.there (.there (.there .here))))); dsimp only; rw [mapT _ hx27, ← List.append_assoc]; exact h1) 
          · refine Ops.q (q_cmp rfl rfl (c_nlt (by omega))) ?_
            refine Ops.to rfl ?_
            refine Cd.seq ?_
            refine Cd.cond_f rfl ?_
            refine Cd.exitTo rfl ?_
            refine Cd.seq ?_
            refine Cd.seq ?_
            refine Cd.region ?_
            refine Ops.q (q_fa fo_55_0 rfl) ?_
            refine Ops.q (q_ldB isA_26 rfl (.there (.there (.there .here))) rfl) ?_
            refine Ops.q (q_len esz_26 rfl) ?_
            by_cases hemp : (xr.length : Int) = 0
            · refine Ops.q (q_cmp rfl rfl (c_eq hemp)) ?_
              refine Ops.to rfl ?_
              refine Cd.cond_t rfl ?_
              refine Cd.region ?_
              refine Ops.q (q_mv rfl) ?_
              refine Ops.q (q_ar (v := ((m + 1 : Nat) : Int)) rfl rfl (a_inc (by omega))) ?_
              refine Ops.q (q_mv rfl) ?_
              refine Ops.q (q_ar (v := ((m + 1 + q : Nat) : Int)) rfl rfl ((by rw [a_add (by omega)]; rfl))) ?_
              refine Ops.cm (α := Option Addr × Nat) (v := fun _ => .tuple #[]) (A' := fun p => [blk b4 114 [.slice pa (((([] : List Prm) ++ (List.replicate (m + 1) (1 : Int)).map (setTh (onceP 0))) ++ (ls.take k).map (fun l : CL => setTh (onceP 0) (max 1 (l.1.2.length : Int)))).length) pc, .int .i64 1, .slice p.1 (((((([] : List Syn) ++ selvesFrom 0 ((([] : List Prm) ++ (List.replicate (m + 1) (1 : Int)).map (setTh (onceP 0))) ++ (ls.take k).map (fun l : CL => setTh (onceP 0) (max 1 (l.1.2.length : Int)))).length) ++ clTo m (ls.map clP) q) ++ (xr.take j).map (fun t : Int => (⟨t, ((m + 1 + q : Nat) : Int), 1, 1⟩ : Syn))) ++ [(⟨-1 - 0, ((m + 1 + q : Nat) : Int), 1, 1⟩ : Syn)]).length) p.2], row pa pc 116 8 (((([] : List Prm) ++ (List.replicate (m + 1) (1 : Int)).map (setTh (onceP 0))) ++ (ls.take k).map (fun l : CL => setTh (onceP 0) (max 1 (l.1.2.length : Int)))).length) (((([] : List Prm) ++ (List.replicate (m + 1) (1 : Int)).map (setTh (onceP 0))) ++ (ls.take k).map (fun l : CL => setTh (onceP 0) (max 1 (l.1.2.length : Int)))).flatMap ePrm), row p.1 p.2 126 4 (((((([] : List Syn) ++ selvesFrom 0 ((([] : List Prm) ++ (List.replicate (m + 1) (1 : Int)).map (setTh (onceP 0))) ++ (ls.take k).map (fun l : CL => setTh (onceP 0) (max 1 (l.1.2.length : Int)))).length) ++ clTo m (ls.map clP) q) ++ (xr.take j).map (fun t : Int => (⟨t, ((m + 1 + q : Nat) : Int), 1, 1⟩ : Syn))) ++ [(⟨-1 - 0, ((m + 1 + q : Nat) : Int), 1, 1⟩ : Syn)]).length) (((((([] : List Syn) ++ selvesFrom 0 ((([] : List Prm) ++ (List.replicate (m + 1) (1 : Int)).map (setTh (onceP 0))) ++ (ls.take k).map (fun l : CL => setTh (onceP 0) (max 1 (l.1.2.length : Int)))).length) ++ clTo m (ls.map clP) q) ++ (xr.take j).map (fun t : Int => (⟨t, ((m + 1 + q : Nat) : Int), 1, 1⟩ : Syn))) ++ [(⟨-1 - 0, ((m + 1 + q : Nat) : Int), 1, 1⟩ : Syn)]).flatMap eSyn), blk b25 55 [.slice xa xr.length xc, .int .i64 xt], blk b1 32 [.slice none 0 0, .int .i64 0, .slice none 0 0]]) en_51 rfl (fun w hs => feed_c _ _ _ _ _ ((([] : List Prm) ++ (List.replicate (m + 1) (1 : Int)).map (setTh (onceP 0))) ++ (ls.take k).map (fun l : CL => setTh (onceP 0) (max 1 (l.1.2.length : Int)))) _ (((([] : List Syn) ++ selvesFrom 0 ((([] : List Prm) ++ (List.replicate (m + 1) (1 : Int)).map (setTh (onceP 0))) ++ (ls.take k).map (fun l : CL => setTh (onceP 0) (max 1 (l.1.2.length : Int)))).length) ++ clTo m (ls.map clP) q) ++ (xr.take j).map (fun t : Int => (⟨t, ((m + 1 + q : Nat) : Int), 1, 1⟩ : Syn))) 0 ((m + 1 + q : Nat) : Int) 1 1 _ w _ (by simp only [List.length_append, List.length_map, List.length_take, List.length_cons, List.length_nil, List.length_replicate, selves_len]; omega) (by omega) ((((((hs.pull (.there (.there (.there (.there .here))))).pull (.there (.there (.there (.there .here))))).pull (.there (.there (.there (.there .here))))).pull (.there (.there (.there (.there .here))))).pull (.there (.there (.there (.there .here))))))) ?_
              rintro ⟨a32, c33⟩
              refine Ops.to rfl ?_
              refine Cd.seq ?_
              refine Cd.region ?_
              refine Ops.q (q_fa fo_55_1 rfl) ?_
              refine Ops.q (q_ldB isA_3 rfl (.there (.there (.there .here))) rfl) ?_
              refine Ops.q (q_asg rfl) ?_
              refine Ops.to rfl ?_
              refine Cd.seq ?_
              refine Cd.seq ?_
              refine Cd.region ?_
              refine Ops.q (q_mv rfl) ?_
              by_cases h34 : xt < 0
              · refine Ops.q (q_cmp rfl rfl (c_lt h34)) ?_
                have hxt := h34
                refine Ops.to rfl ?_
                refine Cd.cond_t rfl ?_
                refine Cd.region ?_
                refine Ops.q (q_mv rfl) ?_
                refine Ops.q (q_asg rfl) ?_
                refine Ops.to rfl ?_
                refine Cd.region ?_
                refine Ops.q (q_mv rfl) ?_
                refine Ops.q (q_ar (v := ((m + 1 : Nat) : Int)) rfl rfl (a_inc (by omega))) ?_
                refine Ops.q (q_mv rfl) ?_
                refine Ops.q (q_ar (v := ((m + 1 + q : Nat) : Int)) rfl rfl ((by rw [a_add (by omega)]; rfl))) ?_
                refine Ops.q (q_mv rfl) ?_
                refine Ops.cm (α := Option Addr × Nat) (v := fun _ => .tuple #[]) (A' := fun p => [blk b4 114 [.slice pa (((([] : List Prm) ++ (List.replicate (m + 1) (1 : Int)).map (setTh (onceP 0))) ++ (ls.take k).map (fun l : CL => setTh (onceP 0) (max 1 (l.1.2.length : Int)))).length) pc, .int .i64 1, .slice p.1 ((((((([] : List Syn) ++ selvesFrom 0 ((([] : List Prm) ++ (List.replicate (m + 1) (1 : Int)).map (setTh (onceP 0))) ++ (ls.take k).map (fun l : CL => setTh (onceP 0) (max 1 (l.1.2.length : Int)))).length) ++ clTo m (ls.map clP) q) ++ (xr.take j).map (fun t : Int => (⟨t, ((m + 1 + q : Nat) : Int), 1, 1⟩ : Syn))) ++ [(⟨-1 - 0, ((m + 1 + q : Nat) : Int), 1, 1⟩ : Syn)]) ++ [(⟨((m + 1 + q : Nat) : Int), (m : Int), 1, 1⟩ : Syn)]).length) p.2], row pa pc 116 8 (((([] : List Prm) ++ (List.replicate (m + 1) (1 : Int)).map (setTh (onceP 0))) ++ (ls.take k).map (fun l : CL => setTh (onceP 0) (max 1 (l.1.2.length : Int)))).length) (((([] : List Prm) ++ (List.replicate (m + 1) (1 : Int)).map (setTh (onceP 0))) ++ (ls.take k).map (fun l : CL => setTh (onceP 0) (max 1 (l.1.2.length : Int)))).flatMap ePrm), row p.1 p.2 126 4 ((((((([] : List Syn) ++ selvesFrom 0 ((([] : List Prm) ++ (List.replicate (m + 1) (1 : Int)).map (setTh (onceP 0))) ++ (ls.take k).map (fun l : CL => setTh (onceP 0) (max 1 (l.1.2.length : Int)))).length) ++ clTo m (ls.map clP) q) ++ (xr.take j).map (fun t : Int => (⟨t, ((m + 1 + q : Nat) : Int), 1, 1⟩ : Syn))) ++ [(⟨-1 - 0, ((m + 1 + q : Nat) : Int), 1, 1⟩ : Syn)]) ++ [(⟨((m + 1 + q : Nat) : Int), (m : Int), 1, 1⟩ : Syn)]).length) ((((((([] : List Syn) ++ selvesFrom 0 ((([] : List Prm) ++ (List.replicate (m + 1) (1 : Int)).map (setTh (onceP 0))) ++ (ls.take k).map (fun l : CL => setTh (onceP 0) (max 1 (l.1.2.length : Int)))).length) ++ clTo m (ls.map clP) q) ++ (xr.take j).map (fun t : Int => (⟨t, ((m + 1 + q : Nat) : Int), 1, 1⟩ : Syn))) ++ [(⟨-1 - 0, ((m + 1 + q : Nat) : Int), 1, 1⟩ : Syn)]) ++ [(⟨((m + 1 + q : Nat) : Int), (m : Int), 1, 1⟩ : Syn)]).flatMap eSyn), blk b25 55 [.slice xa xr.length xc, .int .i64 xt], blk b1 32 [.slice none 0 0, .int .i64 0, .slice none 0 0]]) en_50 rfl (fun w hs => join_c _ _ _ _ _ ((([] : List Prm) ++ (List.replicate (m + 1) (1 : Int)).map (setTh (onceP 0))) ++ (ls.take k).map (fun l : CL => setTh (onceP 0) (max 1 (l.1.2.length : Int)))) _ ((((([] : List Syn) ++ selvesFrom 0 ((([] : List Prm) ++ (List.replicate (m + 1) (1 : Int)).map (setTh (onceP 0))) ++ (ls.take k).map (fun l : CL => setTh (onceP 0) (max 1 (l.1.2.length : Int)))).length) ++ clTo m (ls.map clP) q) ++ (xr.take j).map (fun t : Int => (⟨t, ((m + 1 + q : Nat) : Int), 1, 1⟩ : Syn))) ++ [(⟨-1 - 0, ((m + 1 + q : Nat) : Int), 1, 1⟩ : Syn)]) ((m + 1 + q : Nat) : Int) (m : Int) 1 1 _ w _ (by simp only [List.length_append, List.length_map, List.length_take, List.length_cons, List.length_nil, List.length_replicate, selves_len]; omega) ((((((hs.pull (.there (.there (.there (.there .here))))).pull (.there (.there (.there (.there .here))))).pull (.there (.there (.there (.there .here))))).pull (.there (.there (.there (.there .here))))).pull (.there (.there (.there (.there .here))))))) ?_
                rintro ⟨a35, c36⟩
                refine Ops.to rfl ?_
                refine Cd.region ?_
                refine Ops.q (q_ar rfl rfl (a_inc (by omega))) ?_
                refine Ops.q (q_mv rfl) ?_
                refine Ops.rnd ((q + 1, a35, c36)) rfl (by dsimp only; exact (by omega)) (by dsimp only; omega) ⟨rfl, rfl, rfl, rfl, rfl, rfl, trivial⟩ (fun _ hs => by have h1 := (((((hs.pull (.there (.there (.there (.there .here))))).pull (.there (.there (.there .here)))).pull (.there (.there (.there .here)))).pull (.there (.there (.there .here)))).pull (.there (.there (.there (.there .here))))).drop; rw [List.take_of_length_le (show xr.length ≤ j by omega)] at h1; dsimp only; rw [cl_stepE hxq (by omega) (by rw [if_pos (by omega)])]; exact h1) 
              · refine Ops.q (q_cmp rfl rfl (c_nlt (by omega))) ?_
                have hxt := h34
                refine Ops.to rfl ?_
                refine Cd.cond_f rfl ?_
                refine Cd.skipTo rfl ?_
                refine Cd.region ?_
                refine Ops.q (q_mv rfl) ?_
                refine Ops.q (q_ar (v := ((m + 1 : Nat) : Int)) rfl rfl (a_inc (by omega))) ?_
                refine Ops.q (q_mv rfl) ?_
                refine Ops.q (q_ar (v := ((m + 1 + q : Nat) : Int)) rfl rfl ((by rw [a_add (by omega)]; rfl))) ?_
                refine Ops.q (q_mv rfl) ?_
                refine Ops.cm (α := Option Addr × Nat) (v := fun _ => .tuple #[]) (A' := fun p => [blk b4 114 [.slice pa (((([] : List Prm) ++ (List.replicate (m + 1) (1 : Int)).map (setTh (onceP 0))) ++ (ls.take k).map (fun l : CL => setTh (onceP 0) (max 1 (l.1.2.length : Int)))).length) pc, .int .i64 1, .slice p.1 ((((((([] : List Syn) ++ selvesFrom 0 ((([] : List Prm) ++ (List.replicate (m + 1) (1 : Int)).map (setTh (onceP 0))) ++ (ls.take k).map (fun l : CL => setTh (onceP 0) (max 1 (l.1.2.length : Int)))).length) ++ clTo m (ls.map clP) q) ++ (xr.take j).map (fun t : Int => (⟨t, ((m + 1 + q : Nat) : Int), 1, 1⟩ : Syn))) ++ [(⟨-1 - 0, ((m + 1 + q : Nat) : Int), 1, 1⟩ : Syn)]) ++ [(⟨((m + 1 + q : Nat) : Int), xt, 1, 1⟩ : Syn)]).length) p.2], row pa pc 116 8 (((([] : List Prm) ++ (List.replicate (m + 1) (1 : Int)).map (setTh (onceP 0))) ++ (ls.take k).map (fun l : CL => setTh (onceP 0) (max 1 (l.1.2.length : Int)))).length) (((([] : List Prm) ++ (List.replicate (m + 1) (1 : Int)).map (setTh (onceP 0))) ++ (ls.take k).map (fun l : CL => setTh (onceP 0) (max 1 (l.1.2.length : Int)))).flatMap ePrm), row p.1 p.2 126 4 ((((((([] : List Syn) ++ selvesFrom 0 ((([] : List Prm) ++ (List.replicate (m + 1) (1 : Int)).map (setTh (onceP 0))) ++ (ls.take k).map (fun l : CL => setTh (onceP 0) (max 1 (l.1.2.length : Int)))).length) ++ clTo m (ls.map clP) q) ++ (xr.take j).map (fun t : Int => (⟨t, ((m + 1 + q : Nat) : Int), 1, 1⟩ : Syn))) ++ [(⟨-1 - 0, ((m + 1 + q : Nat) : Int), 1, 1⟩ : Syn)]) ++ [(⟨((m + 1 + q : Nat) : Int), xt, 1, 1⟩ : Syn)]).length) ((((((([] : List Syn) ++ selvesFrom 0 ((([] : List Prm) ++ (List.replicate (m + 1) (1 : Int)).map (setTh (onceP 0))) ++ (ls.take k).map (fun l : CL => setTh (onceP 0) (max 1 (l.1.2.length : Int)))).length) ++ clTo m (ls.map clP) q) ++ (xr.take j).map (fun t : Int => (⟨t, ((m + 1 + q : Nat) : Int), 1, 1⟩ : Syn))) ++ [(⟨-1 - 0, ((m + 1 + q : Nat) : Int), 1, 1⟩ : Syn)]) ++ [(⟨((m + 1 + q : Nat) : Int), xt, 1, 1⟩ : Syn)]).flatMap eSyn), blk b25 55 [.slice xa xr.length xc, .int .i64 xt], blk b1 32 [.slice none 0 0, .int .i64 0, .slice none 0 0]]) en_50 rfl (fun w hs => join_c _ _ _ _ _ ((([] : List Prm) ++ (List.replicate (m + 1) (1 : Int)).map (setTh (onceP 0))) ++ (ls.take k).map (fun l : CL => setTh (onceP 0) (max 1 (l.1.2.length : Int)))) _ ((((([] : List Syn) ++ selvesFrom 0 ((([] : List Prm) ++ (List.replicate (m + 1) (1 : Int)).map (setTh (onceP 0))) ++ (ls.take k).map (fun l : CL => setTh (onceP 0) (max 1 (l.1.2.length : Int)))).length) ++ clTo m (ls.map clP) q) ++ (xr.take j).map (fun t : Int => (⟨t, ((m + 1 + q : Nat) : Int), 1, 1⟩ : Syn))) ++ [(⟨-1 - 0, ((m + 1 + q : Nat) : Int), 1, 1⟩ : Syn)]) ((m + 1 + q : Nat) : Int) xt 1 1 _ w _ (by simp only [List.length_append, List.length_map, List.length_take, List.length_cons, List.length_nil, List.length_replicate, selves_len]; omega) ((((((hs.pull (.there (.there (.there (.there .here))))).pull (.there (.there (.there (.there .here))))).pull (.there (.there (.there (.there .here))))).pull (.there (.there (.there (.there .here))))).pull (.there (.there (.there (.there .here))))))) ?_
                rintro ⟨a37, c38⟩
                refine Ops.to rfl ?_
                refine Cd.region ?_
                refine Ops.q (q_ar rfl rfl (a_inc (by omega))) ?_
                refine Ops.q (q_mv rfl) ?_
                refine Ops.rnd ((q + 1, a37, c38)) rfl (by dsimp only; exact (by omega)) (by dsimp only; omega) ⟨rfl, rfl, rfl, rfl, rfl, rfl, trivial⟩ (fun _ hs => by have h1 := (((((hs.pull (.there (.there (.there (.there .here))))).pull (.there (.there (.there .here)))).pull (.there (.there (.there .here)))).pull (.there (.there (.there .here)))).pull (.there (.there (.there (.there .here))))).drop; rw [List.take_of_length_le (show xr.length ≤ j by omega)] at h1; dsimp only; rw [cl_stepE hxq (by omega) (by rw [if_neg (by omega)])]; exact h1) 
            · refine Ops.q (q_cmp rfl rfl (c_neq hemp)) ?_
              refine Ops.to rfl ?_
              refine Cd.cond_f rfl ?_
              refine Cd.skipTo rfl ?_
              refine Cd.seq ?_
              refine Cd.region ?_
              refine Ops.q (q_fa fo_55_1 rfl) ?_
              refine Ops.q (q_ldB isA_3 rfl (.there (.there (.there .here))) rfl) ?_
              refine Ops.q (q_asg rfl) ?_
              refine Ops.to rfl ?_
              refine Cd.seq ?_
              refine Cd.seq ?_
              refine Cd.region ?_
              refine Ops.q (q_mv rfl) ?_
              by_cases h39 : xt < 0
              · refine Ops.q (q_cmp rfl rfl (c_lt h39)) ?_
                have hxt := h39
                refine Ops.to rfl ?_
                refine Cd.cond_t rfl ?_
                refine Cd.region ?_
                refine Ops.q (q_mv rfl) ?_
                refine Ops.q (q_asg rfl) ?_
                refine Ops.to rfl ?_
                refine Cd.region ?_
                refine Ops.q (q_mv rfl) ?_
                refine Ops.q (q_ar (v := ((m + 1 : Nat) : Int)) rfl rfl (a_inc (by omega))) ?_
                refine Ops.q (q_mv rfl) ?_
                refine Ops.q (q_ar (v := ((m + 1 + q : Nat) : Int)) rfl rfl ((by rw [a_add (by omega)]; rfl))) ?_
                refine Ops.q (q_mv rfl) ?_
                refine Ops.cm (α := Option Addr × Nat) (v := fun _ => .tuple #[]) (A' := fun p => [blk b4 114 [.slice pa (((([] : List Prm) ++ (List.replicate (m + 1) (1 : Int)).map (setTh (onceP 0))) ++ (ls.take k).map (fun l : CL => setTh (onceP 0) (max 1 (l.1.2.length : Int)))).length) pc, .int .i64 1, .slice p.1 (((((([] : List Syn) ++ selvesFrom 0 ((([] : List Prm) ++ (List.replicate (m + 1) (1 : Int)).map (setTh (onceP 0))) ++ (ls.take k).map (fun l : CL => setTh (onceP 0) (max 1 (l.1.2.length : Int)))).length) ++ clTo m (ls.map clP) q) ++ (xr.take j).map (fun t : Int => (⟨t, ((m + 1 + q : Nat) : Int), 1, 1⟩ : Syn))) ++ [(⟨((m + 1 + q : Nat) : Int), (m : Int), 1, 1⟩ : Syn)]).length) p.2], row pa pc 116 8 (((([] : List Prm) ++ (List.replicate (m + 1) (1 : Int)).map (setTh (onceP 0))) ++ (ls.take k).map (fun l : CL => setTh (onceP 0) (max 1 (l.1.2.length : Int)))).length) (((([] : List Prm) ++ (List.replicate (m + 1) (1 : Int)).map (setTh (onceP 0))) ++ (ls.take k).map (fun l : CL => setTh (onceP 0) (max 1 (l.1.2.length : Int)))).flatMap ePrm), row p.1 p.2 126 4 (((((([] : List Syn) ++ selvesFrom 0 ((([] : List Prm) ++ (List.replicate (m + 1) (1 : Int)).map (setTh (onceP 0))) ++ (ls.take k).map (fun l : CL => setTh (onceP 0) (max 1 (l.1.2.length : Int)))).length) ++ clTo m (ls.map clP) q) ++ (xr.take j).map (fun t : Int => (⟨t, ((m + 1 + q : Nat) : Int), 1, 1⟩ : Syn))) ++ [(⟨((m + 1 + q : Nat) : Int), (m : Int), 1, 1⟩ : Syn)]).length) (((((([] : List Syn) ++ selvesFrom 0 ((([] : List Prm) ++ (List.replicate (m + 1) (1 : Int)).map (setTh (onceP 0))) ++ (ls.take k).map (fun l : CL => setTh (onceP 0) (max 1 (l.1.2.length : Int)))).length) ++ clTo m (ls.map clP) q) ++ (xr.take j).map (fun t : Int => (⟨t, ((m + 1 + q : Nat) : Int), 1, 1⟩ : Syn))) ++ [(⟨((m + 1 + q : Nat) : Int), (m : Int), 1, 1⟩ : Syn)]).flatMap eSyn), blk b25 55 [.slice xa xr.length xc, .int .i64 xt], blk b1 32 [.slice none 0 0, .int .i64 0, .slice none 0 0]]) en_50 rfl (fun w hs => join_c _ _ _ _ _ ((([] : List Prm) ++ (List.replicate (m + 1) (1 : Int)).map (setTh (onceP 0))) ++ (ls.take k).map (fun l : CL => setTh (onceP 0) (max 1 (l.1.2.length : Int)))) _ (((([] : List Syn) ++ selvesFrom 0 ((([] : List Prm) ++ (List.replicate (m + 1) (1 : Int)).map (setTh (onceP 0))) ++ (ls.take k).map (fun l : CL => setTh (onceP 0) (max 1 (l.1.2.length : Int)))).length) ++ clTo m (ls.map clP) q) ++ (xr.take j).map (fun t : Int => (⟨t, ((m + 1 + q : Nat) : Int), 1, 1⟩ : Syn))) ((m + 1 + q : Nat) : Int) (m : Int) 1 1 _ w _ (by simp only [List.length_append, List.length_map, List.length_take, List.length_cons, List.length_nil, List.length_replicate, selves_len]; omega) ((((((hs.pull (.there (.there (.there (.there .here))))).pull (.there (.there (.there (.there .here))))).pull (.there (.there (.there (.there .here))))).pull (.there (.there (.there (.there .here))))).pull (.there (.there (.there (.there .here))))))) ?_
                rintro ⟨a40, c41⟩
                refine Ops.to rfl ?_
                refine Cd.region ?_
                refine Ops.q (q_ar rfl rfl (a_inc (by omega))) ?_
                refine Ops.q (q_mv rfl) ?_
                refine Ops.rnd ((q + 1, a40, c41)) rfl (by dsimp only; exact (by omega)) (by dsimp only; omega) ⟨rfl, rfl, rfl, rfl, rfl, rfl, trivial⟩ (fun _ hs => by have h1 := (((((hs.pull (.there (.there (.there (.there .here))))).pull (.there (.there (.there .here)))).pull (.there (.there (.there .here)))).pull (.there (.there (.there .here)))).pull (.there (.there (.there (.there .here))))).drop; rw [List.take_of_length_le (show xr.length ≤ j by omega)] at h1; dsimp only; rw [cl_stepN hxq (by omega) (by rw [if_pos (by omega)])]; exact h1) 
              · refine Ops.q (q_cmp rfl rfl (c_nlt (by omega))) ?_
                have hxt := h39
                refine Ops.to rfl ?_
                refine Cd.cond_f rfl ?_
                refine Cd.skipTo rfl ?_
                refine Cd.region ?_
                refine Ops.q (q_mv rfl) ?_
                refine Ops.q (q_ar (v := ((m + 1 : Nat) : Int)) rfl rfl (a_inc (by omega))) ?_
                refine Ops.q (q_mv rfl) ?_
                refine Ops.q (q_ar (v := ((m + 1 + q : Nat) : Int)) rfl rfl ((by rw [a_add (by omega)]; rfl))) ?_
                refine Ops.q (q_mv rfl) ?_
                refine Ops.cm (α := Option Addr × Nat) (v := fun _ => .tuple #[]) (A' := fun p => [blk b4 114 [.slice pa (((([] : List Prm) ++ (List.replicate (m + 1) (1 : Int)).map (setTh (onceP 0))) ++ (ls.take k).map (fun l : CL => setTh (onceP 0) (max 1 (l.1.2.length : Int)))).length) pc, .int .i64 1, .slice p.1 (((((([] : List Syn) ++ selvesFrom 0 ((([] : List Prm) ++ (List.replicate (m + 1) (1 : Int)).map (setTh (onceP 0))) ++ (ls.take k).map (fun l : CL => setTh (onceP 0) (max 1 (l.1.2.length : Int)))).length) ++ clTo m (ls.map clP) q) ++ (xr.take j).map (fun t : Int => (⟨t, ((m + 1 + q : Nat) : Int), 1, 1⟩ : Syn))) ++ [(⟨((m + 1 + q : Nat) : Int), xt, 1, 1⟩ : Syn)]).length) p.2], row pa pc 116 8 (((([] : List Prm) ++ (List.replicate (m + 1) (1 : Int)).map (setTh (onceP 0))) ++ (ls.take k).map (fun l : CL => setTh (onceP 0) (max 1 (l.1.2.length : Int)))).length) (((([] : List Prm) ++ (List.replicate (m + 1) (1 : Int)).map (setTh (onceP 0))) ++ (ls.take k).map (fun l : CL => setTh (onceP 0) (max 1 (l.1.2.length : Int)))).flatMap ePrm), row p.1 p.2 126 4 (((((([] : List Syn) ++ selvesFrom 0 ((([] : List Prm) ++ (List.replicate (m + 1) (1 : Int)).map (setTh (onceP 0))) ++ (ls.take k).map (fun l : CL => setTh (onceP 0) (max 1 (l.1.2.length : Int)))).length) ++ clTo m (ls.map clP) q) ++ (xr.take j).map (fun t : Int => (⟨t, ((m + 1 + q : Nat) : Int), 1, 1⟩ : Syn))) ++ [(⟨((m + 1 + q : Nat) : Int), xt, 1, 1⟩ : Syn)]).length) (((((([] : List Syn) ++ selvesFrom 0 ((([] : List Prm) ++ (List.replicate (m + 1) (1 : Int)).map (setTh (onceP 0))) ++ (ls.take k).map (fun l : CL => setTh (onceP 0) (max 1 (l.1.2.length : Int)))).length) ++ clTo m (ls.map clP) q) ++ (xr.take j).map (fun t : Int => (⟨t, ((m + 1 + q : Nat) : Int), 1, 1⟩ : Syn))) ++ [(⟨((m + 1 + q : Nat) : Int), xt, 1, 1⟩ : Syn)]).flatMap eSyn), blk b25 55 [.slice xa xr.length xc, .int .i64 xt], blk b1 32 [.slice none 0 0, .int .i64 0, .slice none 0 0]]) en_50 rfl (fun w hs => join_c _ _ _ _ _ ((([] : List Prm) ++ (List.replicate (m + 1) (1 : Int)).map (setTh (onceP 0))) ++ (ls.take k).map (fun l : CL => setTh (onceP 0) (max 1 (l.1.2.length : Int)))) _ (((([] : List Syn) ++ selvesFrom 0 ((([] : List Prm) ++ (List.replicate (m + 1) (1 : Int)).map (setTh (onceP 0))) ++ (ls.take k).map (fun l : CL => setTh (onceP 0) (max 1 (l.1.2.length : Int)))).length) ++ clTo m (ls.map clP) q) ++ (xr.take j).map (fun t : Int => (⟨t, ((m + 1 + q : Nat) : Int), 1, 1⟩ : Syn))) ((m + 1 + q : Nat) : Int) xt 1 1 _ w _ (by simp only [List.length_append, List.length_map, List.length_take, List.length_cons, List.length_nil, List.length_replicate, selves_len]; omega) ((((((hs.pull (.there (.there (.there (.there .here))))).pull (.there (.there (.there (.there .here))))).pull (.there (.there (.there (.there .here))))).pull (.there (.there (.there (.there .here))))).pull (.there (.there (.there (.there .here))))))) ?_
                rintro ⟨a42, c43⟩
                refine Ops.to rfl ?_
                refine Cd.region ?_
                refine Ops.q (q_ar rfl rfl (a_inc (by omega))) ?_
                refine Ops.q (q_mv rfl) ?_
                refine Ops.rnd ((q + 1, a42, c43)) rfl (by dsimp only; exact (by omega)) (by dsimp only; omega) ⟨rfl, rfl, rfl, rfl, rfl, rfl, trivial⟩ (fun _ hs => by have h1 := (((((hs.pull (.there (.there (.there (.there .here))))).pull (.there (.there (.there .here)))).pull (.there (.there (.there .here)))).pull (.there (.there (.there .here)))).pull (.there (.there (.there (.there .here))))).drop; rw [List.take_of_length_le (show xr.length ≤ j by omega)] at h1; dsimp only; rw [cl_stepN hxq (by omega) (by rw [if_neg (by omega)])]; exact h1) 
        · refine Ops.q (q_cmp rfl rfl (c_nlt (by omega))) ?_
          refine Ops.to rfl ?_
          refine Cd.seq ?_
          refine Cd.cond_f rfl ?_
          refine Cd.exitTo rfl ?_
          refine Cd.seq ?_
          refine Cd.region ?_
          refine Ops.q (q_fa fo_114_0 rfl) ?_
          refine Ops.q (q_ldBN [.slice pa (((([] : List Prm) ++ (List.replicate (m + 1) (1 : Int)).map (setTh (onceP 0))) ++ (ls.take k).map (fun l : CL => setTh (onceP 0) (max 1 (l.1.2.length : Int)))).length) pc, .int .i64 1, .slice qa (((([] : List Syn) ++ selvesFrom 0 ((([] : List Prm) ++ (List.replicate (m + 1) (1 : Int)).map (setTh (onceP 0))) ++ (ls.take k).map (fun l : CL => setTh (onceP 0) (max 1 (l.1.2.length : Int)))).length) ++ clTo m (ls.map clP) q).length) qc] isA_32 sz_32 rfl .here rfl) ?_
          refine Ops.stB [.slice pa (((([] : List Prm) ++ (List.replicate (m + 1) (1 : Int)).map (setTh (onceP 0))) ++ (ls.take k).map (fun l : CL => setTh (onceP 0) (max 1 (l.1.2.length : Int)))).length) pc, .int .i64 1, .slice qa (((([] : List Syn) ++ selvesFrom 0 ((([] : List Prm) ++ (List.replicate (m + 1) (1 : Int)).map (setTh (onceP 0))) ++ (ls.take k).map (fun l : CL => setTh (onceP 0) (max 1 (l.1.2.length : Int)))).length) ++ clTo m (ls.map clP) q).length) qc] [.slice pa (((([] : List Prm) ++ (List.replicate (m + 1) (1 : Int)).map (setTh (onceP 0))) ++ (ls.take k).map (fun l : CL => setTh (onceP 0) (max 1 (l.1.2.length : Int)))).length) pc, .int .i64 1, .slice qa (((([] : List Syn) ++ selvesFrom 0 ((([] : List Prm) ++ (List.replicate (m + 1) (1 : Int)).map (setTh (onceP 0))) ++ (ls.take k).map (fun l : CL => setTh (onceP 0) (max 1 (l.1.2.length : Int)))).length) ++ clTo m (ls.map clP) q).length) qc] sz_32 rfl rfl rfl (one rfl) (.there (.there (.there .here))) rfl rfl ?_
          refine Ops.q (q_asg rfl) ?_
          refine Ops.to rfl ?_
          refine Cd.rt (fn := Try.f26) [.agg [.slice pa (((([] : List Prm) ++ (List.replicate (m + 1) (1 : Int)).map (setTh (onceP 0))) ++ (ls.take k).map (fun l : CL => setTh (onceP 0) (max 1 (l.1.2.length : Int)))).length) pc, .int .i64 1, .slice qa (((([] : List Syn) ++ selvesFrom 0 ((([] : List Prm) ++ (List.replicate (m + 1) (1 : Int)).map (setTh (onceP 0))) ++ (ls.take k).map (fun l : CL => setTh (onceP 0) (max 1 (l.1.2.length : Int)))).length) ++ clTo m (ls.map clP) q).length) qc].toArray, .int .i64 0] (by with_reducible repeat (first | exact rq_here | apply rq_then | apply rq_block)) rfl ⟨⟨_, _, rfl, fun _ hs => run_loadN isA_32 sz_32 (fun o u hu => Sat.atB (.there (.there (.there .here))) (by rw [Nat.zero_add]; exact hu) hs)⟩, rfl, trivial⟩ ?_
          intro w' hs'
          have hq : q = ls.length := by omega
          rw [hq, List.take_of_length_le (show ls.length ≤ k by omega)] at hs'
          have hP : hornP (m : Int) (ls.map clP) = .ok ⟨((([] : List Prm) ++ (List.replicate (m + 1) (1 : Int)).map (setTh (onceP 0))) ++ ls.map (fun l : CL => setTh (onceP 0) (max 1 (l.1.2.length : Int)))), 1, ((([] : List Syn) ++ selvesFrom 0 ((([] : List Prm) ++ (List.replicate (m + 1) (1 : Int)).map (setTh (onceP 0))) ++ ls.map (fun l : CL => setTh (onceP 0) (max 1 (l.1.2.length : Int)))).length) ++ clTo m (ls.map clP) ls.length)⟩ := by unfold hornP; rw [if_pos h2, if_neg (by rw [List.length_map]; omega), h9, if_neg (by decide)]; simp only [List.nil_append, List.length_append, List.length_map, List.length_replicate, List.map_replicate, List.map_map, Int.toNat_natCast]; rfl
          rw [hP]
          exact ⟨(pa, pc), (qa, qc), by rw [hq, List.take_of_length_le (show ls.length ≤ k by omega)]; rfl, ((((hs'.pull (.there (.there .here))).pull (.there (.there .here))).pull (.there (.there .here))).drop.pull (.there (.there .here))).drop⟩
  · refine Ops.cp en_57 rfl (fun w hs => dF (in_c _ _ _ w) h2) ?_
    refine Ops.q (q_not rfl) ?_
    refine Ops.q (q_asg rfl) ?_
    refine Ops.to rfl ?_
    refine Cd.cond_t rfl ?_
    refine Cd.seq ?_
    refine Cd.region ?_
    refine Ops.q (q_bld [.slice none 0 0, .int .i64 0, .slice none 0 0] pls_32 zc_32 rfl rfl) ?_
    refine Ops.stB [.slice none 0 0, .int .i64 0, .slice none 0 0] [.slice none 0 0, .int .i64 0, .slice none 0 0] sz_32 rfl rfl rfl (one rfl) .here rfl rfl ?_
    refine Ops.q (q_asg rfl) ?_
    refine Ops.to rfl ?_
    refine Cd.rt (fn := Try.f26) [.agg [.slice none 0 0, .int .i64 0, .slice none 0 0].toArray, .int .i64 3] (by with_reducible repeat (first | exact rq_here | apply rq_then | apply rq_block)) rfl ⟨⟨_, _, rfl, fun _ hs => run_loadN isA_32 sz_32 (fun o u hu => Sat.atB .here (by rw [Nat.zero_add]; exact hu) hs)⟩, rfl, trivial⟩ ?_
    intro w' hs'
    rw [show hornP n (ls.map clP) = .error 3 by unfold hornP; rw [if_neg h2]]
    exact ⟨rfl, hs'.none⟩
end Go.Proofs.Ytilcdghliigngaa
namespace Go.Proofs.Ytilcdghliigngaa
open Go.RowKit Go.Proofs.YtilcdghliigngaaGl Go.Proofs.YtilcdghliigngaaPm
set_option linter.unusedVariables false
set_option linter.unusedSimpArgs false
abbrev PR := NL × NL
abbrev prP (l : PR) : List Int × List Int := (l.1.2, l.2.2)
def ePr (l : PR) : List Value := [.slice l.1.1.1 l.1.2.length l.1.1.2, .slice l.2.1.1 l.2.2.length l.2.1.2]
theorem ePr_len (l : PR) : (ePr l).length = 2 := rfl
def RoPR (w : World) (a : Option Addr) (ls : List PR) : Prop := RoL w a ePr ls ∧ ∀ l ∈ ls, RoL w l.1.1.1 eInt l.1.2 ∧ RoL w l.2.1.1 eInt l.2.2
theorem RoPR.later {w w' : World} {a : Option Addr} {ls : List PR} (h : RoPR w a ls) (hb : Below w.heap.size w w') : RoPR w' a ls := ⟨RoL.later h.1 hb, fun l hl => ⟨RoL.later (h.2 l hl).1 hb, RoL.later (h.2 l hl).2 hb⟩⟩
def memE (m n : Int) (p : List Int × List Int) : Int := if setE m p.1 = 4 ∨ setE n p.2 = 4 then 4 else if setE m p.1 ≠ 0 ∨ setE n p.2 ≠ 0 then 5 else 0
def prodS (p : List Int × List Int) : List (Int × Int) := p.2.flatMap fun j => p.1.map fun i => (i, j)
def togS (ps : List (List Int × List Int)) : List (Int × Int) := ps.flatMap prodS
def memCell (S : List (Int × Int)) (j i : Nat) : List Syn := if ((i : Int), (j : Int)) ∈ S then [] else [⟨-1 - (i : Int), (j : Int), -1, 1⟩]
def memRow (m : Nat) (S : List (Int × Int)) (j i : Nat) : List Syn := (List.range i).flatMap (memCell S j)
def memTo (m : Nat) (S : List (Int × Int)) (j : Nat) : List Syn := (List.range j).flatMap fun q => [⟨-1 - (m : Int), (q : Int), 1, 1⟩] ++ memRow m S q m
def memP (m n : Int) (ps : List (List Int × List Int)) : Except Int NetP :=
  if wi m 1 64 ∧ wi n 1 64 then
    if 256 < ps.length then .error 9
    else if firstE (memE m n) ps ≠ 0 then .error (firstE (memE m n) ps)
    else .ok ⟨List.replicate n.toNat (gateP 1), m + 1, memTo m.toNat (togS ps) n.toNat⟩
  else .error 3
theorem memCell_len (S : List (Int × Int)) (j i : Nat) : (memCell S j i).length ≤ 1 := by unfold memCell; split <;> simp
theorem memRow_len (m : Nat) (S : List (Int × Int)) (j : Nat) : ∀ i, (memRow m S j i).length ≤ i
  | 0 => by simp [memRow]
  | i + 1 => by
    have ih := memRow_len m S j i
    have h := memCell_len S j i
    unfold memRow at ih ⊢
    rw [rf_app, List.length_append]; omega
theorem memTo_len (m : Nat) (S : List (Int × Int)) : ∀ j, (memTo m S j).length ≤ j * (m + 1)
  | 0 => by simp [memTo]
  | j + 1 => by
    have ih := memTo_len m S j
    have h := memRow_len m S j m
    unfold memTo at ih ⊢
    rw [rf_app, List.length_append, List.length_append, Nat.succ_mul]
    simp only [List.length_cons, List.length_nil]; omega
theorem memRow_step {m j i : Nat} {S : List (Int × Int)} (X : List Syn) : X ++ memRow m S j (i + 1) = (X ++ memRow m S j i) ++ memCell S j i := by
  unfold memRow; rw [rf_app, List.append_assoc]
theorem memTo_step {m j : Nat} {S : List (Int × Int)} (X : List Syn) : X ++ memTo m S (j + 1) = ((X ++ memTo m S j) ++ [⟨-1 - (m : Int), (j : Int), 1, 1⟩]) ++ memRow m S j m := by
  unfold memTo; rw [rf_app]; simp
def tgL (S : List (Int × Int)) : List Bool := (List.range 4096).map fun q => decide ((((q % 64 : Nat) : Int), ((q / 64 : Nat) : Int)) ∈ S)
theorem tgL_len (S : List (Int × Int)) : (tgL S).length = 4096 := by simp [tgL]
theorem tgL_get {S : List (Int × Int)} {i j : Nat} (hi : i < 64) (hj : j < 64) : (tgL S)[j * 64 + i]? = some (decide (((i : Int), (j : Int)) ∈ S)) := by
  have h1 : (j * 64 + i) % 64 = i := by omega
  have h2 : (j * 64 + i) / 64 = j := by omega
  unfold tgL
  rw [List.getElem?_map, List.getElem?_range (by omega)]
  simp only [Option.map_some, h1, h2]
theorem tgL_set {S : List (Int × Int)} {i j : Nat} (hi : i < 64) (hj : j < 64) : (tgL S).set (j * 64 + i) true = tgL (S ++ [((i : Int), (j : Int))]) := by
  apply List.ext_getElem?
  intro q
  rw [List.getElem?_set, tgL_len]
  by_cases hq : q < 4096
  · have e : ∀ S, (tgL S)[q]? = some (decide ((((q % 64 : Nat) : Int), ((q / 64 : Nat) : Int)) ∈ S)) := fun S => by
      unfold tgL; rw [List.getElem?_map, List.getElem?_range hq]; rfl
    rw [e, e]
    by_cases h : j * 64 + i = q
    · subst h
      have h1 : (j * 64 + i) % 64 = i := by omega
      have h2 : (j * 64 + i) / 64 = j := by omega
      rw [if_pos rfl, if_pos (by omega), h1, h2]
      simp
    · rw [if_neg h]
      have hne : ¬ (((q % 64 : Nat) : Int), ((q / 64 : Nat) : Int)) = ((i : Int), (j : Int)) := fun e => by
        simp only [Prod.mk.injEq] at e; omega
      rw [decide_eq_decide.2 (show _ ∈ S ↔ _ ∈ S ++ [_] from by rw [List.mem_append, List.mem_singleton]; exact ⟨.inl, fun h => h.resolve_right hne⟩)]
  · rw [if_neg (by omega)]
    rw [List.getElem?_eq_none (by rw [tgL_len]; omega), List.getElem?_eq_none (by rw [tgL_len]; omega)]
theorem fmB (xs : List Bool) : xs.flatMap eBool = xs.map .bool := by
  induction xs with
  | nil => rfl
  | cons x xs ih => rw [List.flatMap_cons, ih]; rfl
theorem tg0 : (tgL []).flatMap eBool = List.replicate 4096 (.bool false) := by
  rw [fmB, tgL, List.map_map]
  refine List.eq_replicate_iff.2 ⟨by simp, fun b hb => ?_⟩
  obtain ⟨q, _, rfl⟩ := List.mem_map.1 hb
  simp
theorem zc_135 : zc Try.prog 135 = some (List.replicate 4096 (.bool false)) := by kernel_rfl
theorem tg_get {S : List (Int × Int)} {i j : Nat} (hi : i < 64) (hj : j < 64) : ((tgL S).flatMap eBool)[0 + j * 64 + i * 1]? = some (.bool (decide (((i : Int), (j : Int)) ∈ S))) := by
  rw [fmB, List.getElem?_map, show 0 + j * 64 + i * 1 = j * 64 + i by omega, tgL_get hi hj]; rfl
theorem tg_set {S : List (Int × Int)} {i j : Nat} (hi : i < 64) (hj : j < 64) : ((tgL S).flatMap eBool).take (0 + j * 64 + i * 1) ++ [.bool true] ++ ((tgL S).flatMap eBool).drop (0 + j * 64 + i * 1 + [Value.bool true].length) = (tgL (S ++ [((i : Int), (j : Int))])).flatMap eBool := by
  have := fm_set eBool_len (tgL S) (j * 64 + i) true (by rw [tgL_len]; omega)
  rw [tgL_set hi hj] at this
  rw [← this, show 0 + (j * 64 + i) * 1 = 0 + j * 64 + i * 1 by omega]; rfl
theorem tg_len (S : List (Int × Int)) : ((tgL S).flatMap eBool).length = 4096 := by rw [fm_length eBool_len, tgL_len]
theorem setE_ok {n : Int} {xs : List Int} (h : setE n xs = 0) : ∀ x ∈ xs, wi x 0 (n - 1) := by
  unfold setE at h
  split at h
  · assumption
  · cases h
theorem togS_step {ps : List (List Int × List Int)} {k : Nat} {p : List Int × List Int} (h : ps[k]? = some p) : togS (ps.take (k + 1)) = togS (ps.take k) ++ prodS p := by
  unfold togS; rw [List.take_add_one, h, List.flatMap_append]; simp
theorem fmT36 {α β : Type} (f : α → List β) {xs : List α} {k : Nat} {x : α} (h : xs[k]? = some x) : (xs.take (k + 1)).flatMap f = (xs.take k).flatMap f ++ f x := by
  rw [List.take_add_one, h, List.flatMap_append]; simp
theorem memE_4 {m n : Int} {p : List Int × List Int} (h : setE m p.1 = 4 ∨ setE n p.2 = 4) : memE m n p = 4 := by unfold memE; rw [if_pos h]
theorem memE_5 {m n : Int} {p : List Int × List Int} (h : ¬ (setE m p.1 = 4 ∨ setE n p.2 = 4)) (h2 : setE m p.1 ≠ 0 ∨ setE n p.2 ≠ 0) : memE m n p = 5 := by unfold memE; rw [if_neg h, if_pos h2]
theorem memE_0 {m n : Int} {p : List Int × List Int} (h2 : setE m p.1 = 0) (h3 : setE n p.2 = 0) : memE m n p = 0 := by unfold memE; rw [h2, h3]; rfl
theorem memory_c (mi ni : Int) (la : Option Addr) (lc : Nat) (ls : List PR) (w : World) (hL : RoPR w la ls) (hlen : ∀ l ∈ ls, l.1.2.length ≤ 1000000 ∧ l.2.2.length ≤ 1000000) : Calls Try.prog 28 [.int .i64 mi, .int .i64 ni, .slice la ls.length lc].toArray w (RetR (memP mi ni (ls.map prP)) w) := by
  refine fstart Try.func28 rfl rfl (Sat.nil w) ?_
  refine Cd.seq ?_
  refine Cd.region ?_
  refine Ops.alc [.slice none 0 0, .int .i64 0, .slice none 0 0] zc_32 ?_
  intro b1
  refine Ops.q (q_asg rfl) ?_
  refine Ops.to rfl ?_
  refine Cd.seq ?_
  refine Cd.block ?_
  refine Cd.seq ?_
  refine Cd.region ?_
  refine Ops.q (q_mv rfl) ?_
  by_cases h2 : wi mi 1 64
  · refine Ops.cp en_57 rfl (fun w hs => dT (in_c _ _ _ w) h2) ?_
    refine Ops.q (q_not rfl) ?_
    refine Ops.q (q_mv rfl) ?_
    refine Ops.q (q_mv rfl) ?_
    by_cases h3 : wi ni 1 64
    · refine Ops.cp en_57 rfl (fun w hs => dT (in_c _ _ _ w) h3) ?_
      refine Ops.q (q_not rfl) ?_
      refine Ops.q (q_pickF rfl rfl) ?_
      refine Ops.q (q_asg rfl) ?_
      refine Ops.to rfl ?_
      refine Cd.cond_f rfl ?_
      refine Cd.seq ?_
      refine Cd.region ?_
      have hwm : wi mi 1 64 := h2
      have hwn : wi ni 1 64 := h3
      obtain ⟨m, rfl⟩ : ∃ j : Nat, mi = (j : Int) := ⟨mi.toNat, by unfold wi at hwm; omega⟩
      obtain ⟨n, rfl⟩ : ∃ j : Nat, ni = (j : Int) := ⟨ni.toNat, by unfold wi at hwn; omega⟩
      have hm : 1 ≤ m ∧ m ≤ 64 := by unfold wi at hwm; omega
      have hn : 1 ≤ n ∧ n ≤ 64 := by unfold wi at hwn; omega
      have hwmn : wi (m : Int) 1 64 ∧ wi (n : Int) 1 64 := ⟨hwm, hwn⟩
      refine Ops.q (q_mv rfl) ?_
      refine Ops.q (q_len esz_58 rfl) ?_
      by_cases h4 : 256 < (ls.length : Int)
      · refine Ops.q (q_cmp rfl rfl (c_gt h4)) ?_
        refine Ops.q (q_asg rfl) ?_
        refine Ops.to rfl ?_
        refine Cd.cond_t rfl ?_
        refine Cd.seq ?_
        refine Cd.region ?_
        refine Ops.q (q_bld [.slice none 0 0, .int .i64 0, .slice none 0 0] pls_32 zc_32 rfl rfl) ?_
        refine Ops.stB [.slice none 0 0, .int .i64 0, .slice none 0 0] [.slice none 0 0, .int .i64 0, .slice none 0 0] sz_32 rfl rfl rfl (one rfl) .here rfl rfl ?_
        refine Ops.q (q_asg rfl) ?_
        refine Ops.to rfl ?_
        refine Cd.rt (fn := Try.f28) [.agg [.slice none 0 0, .int .i64 0, .slice none 0 0].toArray, .int .i64 9] (by with_reducible repeat (first | exact rq_here | apply rq_then | apply rq_block)) rfl ⟨⟨_, _, rfl, fun _ hs => run_loadN isA_32 sz_32 (fun o u hu => Sat.atB .here (by rw [Nat.zero_add]; exact hu) hs)⟩, rfl, trivial⟩ ?_
        intro w' hs'
        rw [show memP (m : Int) (n : Int) (ls.map prP) = .error 9 by unfold memP; rw [if_pos hwmn, if_pos (by rw [List.length_map]; omega)]]
        exact ⟨rfl, hs'.none⟩
      · refine Ops.q (q_cmp rfl rfl (c_ngt (by omega))) ?_
        refine Ops.q (q_asg rfl) ?_
        refine Ops.to rfl ?_
        refine Cd.cond_f rfl ?_
        refine Cd.skipTo rfl ?_
        refine Cd.seq ?_
        refine Cd.region ?_
        refine Ops.alc ((tgL []).flatMap eBool) (by rw [tg0]; exact zc_135) ?_
        intro tbl
        refine Ops.to rfl ?_
        refine Cd.seq ?_
        refine Cd.seq ?_
        refine Cd.region ?_
        refine Ops.q (q_mv rfl) ?_
        refine Ops.q (q_len esz_58 rfl) ?_
        refine Ops.q (q_mv rfl) ?_
        refine Ops.to rfl ?_
        refine Cd.block ?_
        refine Cd.lp (σ := Nat) (fun k => k ≤ ls.length ∧ firstE (memE (m : Int) (n : Int)) ((ls.map prP).drop k) = firstE (memE (m : Int) (n : Int)) (ls.map prP)) (fun k => [(0, .int .i64 (m : Int)), (1, .int .i64 (n : Int)), (2, .slice la ls.length lc), (6, .pointer (some ⟨b1, 0, none⟩)), (8, .pointer (some ⟨tbl, 0, none⟩)), (36, .slice la ls.length lc), (37, .int .i64 (ls.length : Int)), (38, .int .i64 (k : Int))]) (fun k => [blk tbl 135 ((tgL (togS ((ls.map prP).take k))).flatMap eBool), blk b1 32 [.slice none 0 0, .int .i64 0, .slice none 0 0]]) (fun k => ls.length - k) 0 ⟨Nat.zero_le _, rfl⟩ ⟨rfl, rfl, rfl, rfl, rfl, rfl, rfl, rfl, trivial⟩ (fun _ hs => by have h1 := ((hs.pull (.there .here)).pull (.there .here)); exact h1) ?_
        intro k hI
        have hI1 := hI.1
        have hIk := hI
        refine Cd.seq ?_
        refine Cd.region ?_
        by_cases hk : (k : Int) < (ls.length : Int)
        · refine Ops.q (q_cmp rfl rfl (c_lt hk)) ?_
          obtain ⟨⟨⟨⟨ia, ic⟩, xi⟩, ⟨⟨oa, oc⟩, xo⟩⟩, hx⟩ : ∃ x, ls[k]? = some x := ⟨_, List.getElem?_eq_getElem (by omega)⟩
          have hxm := List.mem_iff_getElem?.2 ⟨k, hx⟩
          have hxe : RoL w ia eInt xi := (hL.2 _ hxm).1
          have hxo : RoL w oa eInt xo := (hL.2 _ hxm).2
          have hxl : xi.length ≤ 1000000 ∧ xo.length ≤ 1000000 := hlen _ hxm
          have hxq : (ls.map prP)[k]? = some (xi, xo) := by rw [List.getElem?_map, hx]; rfl
          obtain ⟨lb, lo, rfl⟩ := RoL.pos hL.1 ePr_len hx
          refine Ops.to rfl ?_
          refine Cd.seq ?_
          refine Cd.cond_t rfl ?_
          refine Cd.skipTo rfl ?_
          refine Cd.seq ?_
          refine Cd.block ?_
          refine Cd.seq ?_
          refine Cd.region ?_
          refine Ops.q (q_ix (k := k) esz_58 rfl rfl (by omega)) ?_
          refine Ops.q (q_ldRN [.slice ia xi.length ic, .slice oa xo.length oc] isA_61 sz_61 rfl (fun j u hu => hL.1.at ePr_len hx hu)) ?_
          refine Ops.alc [.slice none 0 0, .slice none 0 0] zc_61 ?_
          intro b5
          refine Ops.stB [.slice ia xi.length ic, .slice oa xo.length oc] [.slice ia xi.length ic, .slice oa xo.length oc] sz_61 rfl rfl rfl (one rfl) .here rfl rfl ?_
          refine Ops.to rfl ?_
          refine Cd.seq ?_
          refine Cd.draw rfl (by kernel_rfl) (.cons .here .nil) ?_
          intro F6 St7 hP8 hF9 hR10
          refine Dr.q (i := 0) hP8 rfl (by kernel_rfl) (q_fa fo_61_0 rfl) ?_
          refine Dr.q (i := 1) hP8 rfl (by kernel_rfl) (q_ldB isA_26 rfl .here rfl) ?_
          refine Dr.q (i := 2) hP8 rfl (by kernel_rfl) (q_mv rfl) ?_
          refine Dr.q (i := 5) hP8 rfl (by kernel_rfl) (q_fa fo_61_1 rfl) ?_
          refine Dr.q (i := 6) hP8 rfl (by kernel_rfl) (q_ldB isA_26 rfl .here rfl) ?_
          refine Dr.q (i := 7) hP8 rfl (by kernel_rfl) (q_mv rfl) ?_
          refine Dr.e (i := 3) rfl (by kernel_rfl) ?_
          refine Ops.cl (α := Nat) (v := fun b => .func (.func 92) #[] #[.pointer (some ⟨b, 0, none⟩)]) (B := fun b => [blk b 3 [.int .i64 (m : Int)]]) en_65 rfl (fun w hs => below_c (m : Int) w) ?_
          intro bl11
          refine Dr.back (fun _ hs => hF9 (.there .here) hs) ?_
          refine Dr.e (i := 4) rfl (by kernel_rfl) ?_
          refine Ops.cm (α := Unit) (v := fun _ => .int .i64 (setE (m : Int) xi)) (A' := fun _ => [blk bl11 3 [.int .i64 (m : Int)], F6, blk tbl 135 ((tgL (togS ((ls.map prP).take k))).flatMap eBool), blk b1 32 [.slice none 0 0, .int .i64 0, .slice none 0 0]]) en_64 rfl (fun w hs => (different_c bl11 _ _ xi _ _ w _ hxe hxl.1 (by omega) (((((hs.pull (.there (.there (.there .here)))).pull (.there (.there (.there .here)))).pull (.there (.there (.there .here)))).pull (.there (.there (.there .here)))))).mono fun e w' h => ⟨(), h.1, h.2⟩) ?_
          intro _
          refine Dr.back (fun _ hs => hF9 (.there .here) hs) ?_
          refine Dr.e (i := 8) rfl (by kernel_rfl) ?_
          refine Ops.cl (α := Nat) (v := fun b => .func (.func 92) #[] #[.pointer (some ⟨b, 0, none⟩)]) (B := fun b => [blk b 3 [.int .i64 (n : Int)]]) en_65 rfl (fun w hs => below_c (n : Int) w) ?_
          intro bl12
          refine Dr.back (fun _ hs => hF9 (.there (.there .here)) hs) ?_
          refine Dr.e (i := 9) rfl (by kernel_rfl) ?_
          refine Ops.cm (α := Unit) (v := fun _ => .int .i64 (setE (n : Int) xo)) (A' := fun _ => [blk bl12 3 [.int .i64 (n : Int)], blk bl11 3 [.int .i64 (m : Int)], F6, blk tbl 135 ((tgL (togS ((ls.map prP).take k))).flatMap eBool), blk b1 32 [.slice none 0 0, .int .i64 0, .slice none 0 0]]) en_64 rfl (fun w hs => (different_c bl12 _ _ xo _ _ w _ hxo hxl.2 (by omega) ((((((hs.pull (.there (.there (.there (.there .here))))).pull (.there (.there (.there (.there .here))))).pull (.there (.there (.there (.there .here))))).pull (.there (.there (.there (.there .here))))).pull (.there (.there (.there (.there .here))))))).mono fun e w' h => ⟨(), h.1, h.2⟩) ?_
          intro _
          refine Dr.back (fun _ hs => hF9 (.there (.there .here)) hs) ?_
          refine Dr.q (i := 10) hP8 rfl (by kernel_rfl) (q_asg rfl) ?_
          refine Dr.tail 11 (by kernel_rfl) ?_
          refine Ops.sat ?_ (fun _ hs => hR10 (.there (.there .here)) hs)
          refine Ops.q (q_asg rfl) ?_
          refine Ops.to rfl ?_
          refine Cd.seq ?_
          refine Cd.block ?_
          refine Cd.seq ?_
          refine Cd.region ?_
          refine Ops.q (q_mv rfl) ?_
          by_cases he4 : setE (m : Int) xi = 4
          · refine Ops.q (q_cmp rfl rfl (c_eq he4)) ?_
            refine Ops.q (q_mv rfl) ?_
            refine Ops.sk ?_
            refine Ops.sk ?_
            refine Ops.q (q_pickT rfl rfl) ?_
            refine Ops.q (q_asg rfl) ?_
            refine Ops.to rfl ?_
            refine Cd.cond_t rfl ?_
            refine Cd.seq ?_
            refine Cd.region ?_
            refine Ops.q (q_bld [.slice none 0 0, .int .i64 0, .slice none 0 0] pls_32 zc_32 rfl rfl) ?_
            refine Ops.stB [.slice none 0 0, .int .i64 0, .slice none 0 0] [.slice none 0 0, .int .i64 0, .slice none 0 0] sz_32 rfl rfl rfl (one rfl) (.there (.there (.there (.there .here)))) rfl rfl ?_
            refine Ops.q (q_asg rfl) ?_
            refine Ops.to rfl ?_
            refine Cd.rt (fn := Try.f28) [.agg [.slice none 0 0, .int .i64 0, .slice none 0 0].toArray, .int .i64 4] (by with_reducible repeat (first | exact rq_here | apply rq_then | apply rq_block)) rfl ⟨⟨_, _, rfl, fun _ hs => run_loadN isA_32 sz_32 (fun o u hu => Sat.atB (.there (.there (.there (.there .here)))) (by rw [Nat.zero_add]; exact hu) hs)⟩, rfl, trivial⟩ ?_
            intro w' hs'
            have h8 : memE (m : Int) (n : Int) (xi, xo) = 4 := memE_4 (by simp_all)
            have h9 : firstE (memE (m : Int) (n : Int)) (ls.map prP) = 4 := by rw [← hI.2, firstE_stop hxq (by rw [h8]; decide), h8]
            rw [show memP (m : Int) (n : Int) (ls.map prP) = .error (4) by unfold memP; rw [if_pos hwmn, if_neg (by rw [List.length_map]; omega), h9, if_pos (by decide)]]
            exact ⟨rfl, hs'.none⟩
          · refine Ops.q (q_cmp rfl rfl (c_neq he4)) ?_
            refine Ops.q (q_mv rfl) ?_
            refine Ops.q (q_mv rfl) ?_
            by_cases ho4 : setE (n : Int) xo = 4
            · refine Ops.q (q_cmp rfl rfl (c_eq ho4)) ?_
              refine Ops.q (q_pickF rfl rfl) ?_
              refine Ops.q (q_asg rfl) ?_
              refine Ops.to rfl ?_
              refine Cd.cond_t rfl ?_
              refine Cd.seq ?_
              refine Cd.region ?_
              refine Ops.q (q_bld [.slice none 0 0, .int .i64 0, .slice none 0 0] pls_32 zc_32 rfl rfl) ?_
              refine Ops.stB [.slice none 0 0, .int .i64 0, .slice none 0 0] [.slice none 0 0, .int .i64 0, .slice none 0 0] sz_32 rfl rfl rfl (one rfl) (.there (.there (.there (.there .here)))) rfl rfl ?_
              refine Ops.q (q_asg rfl) ?_
              refine Ops.to rfl ?_
              refine Cd.rt (fn := Try.f28) [.agg [.slice none 0 0, .int .i64 0, .slice none 0 0].toArray, .int .i64 4] (by with_reducible repeat (first | exact rq_here | apply rq_then | apply rq_block)) rfl ⟨⟨_, _, rfl, fun _ hs => run_loadN isA_32 sz_32 (fun o u hu => Sat.atB (.there (.there (.there (.there .here)))) (by rw [Nat.zero_add]; exact hu) hs)⟩, rfl, trivial⟩ ?_
              intro w' hs'
              have h8 : memE (m : Int) (n : Int) (xi, xo) = 4 := memE_4 (by simp_all)
              have h9 : firstE (memE (m : Int) (n : Int)) (ls.map prP) = 4 := by rw [← hI.2, firstE_stop hxq (by rw [h8]; decide), h8]
              rw [show memP (m : Int) (n : Int) (ls.map prP) = .error (4) by unfold memP; rw [if_pos hwmn, if_neg (by rw [List.length_map]; omega), h9, if_pos (by decide)]]
              exact ⟨rfl, hs'.none⟩
            · refine Ops.q (q_cmp rfl rfl (c_neq ho4)) ?_
              refine Ops.q (q_pickF rfl rfl) ?_
              refine Ops.q (q_asg rfl) ?_
              refine Ops.to rfl ?_
              refine Cd.cond_f rfl ?_
              refine Cd.seq ?_
              refine Cd.region ?_
              refine Ops.q (q_mv rfl) ?_
              by_cases hse0 : setE (m : Int) xi = 0
              · refine Ops.q (q_cmp rfl rfl (c_nne hse0)) ?_
                refine Ops.q (q_mv rfl) ?_
                refine Ops.q (q_mv rfl) ?_
                by_cases hso0 : setE (n : Int) xo = 0
                · refine Ops.q (q_cmp rfl rfl (c_nne hso0)) ?_
                  refine Ops.q (q_pickF rfl rfl) ?_
                  refine Ops.q (q_asg rfl) ?_
                  refine Ops.to rfl ?_
                  refine Cd.cond_f rfl ?_
                  refine Cd.skipTo rfl ?_
                  refine Cd.seq ?_
                  refine Cd.region ?_
                  refine Ops.q (q_fa fo_61_1 rfl) ?_
                  refine Ops.q (q_ldB isA_26 rfl .here rfl) ?_
                  refine Ops.q (q_len esz_26 rfl) ?_
                  refine Ops.q (q_mv rfl) ?_
                  refine Ops.to rfl ?_
                  refine Cd.block ?_
                  refine Cd.lp (σ := Nat) (fun a => a ≤ xo.length) (fun a => [(0, .int .i64 (m : Int)), (1, .int .i64 (n : Int)), (2, .slice (some ⟨lb, lo, none⟩) ls.length lc), (6, .pointer (some ⟨b1, 0, none⟩)), (8, .pointer (some ⟨tbl, 0, none⟩)), (36, .slice (some ⟨lb, lo, none⟩) ls.length lc), (37, .int .i64 (ls.length : Int)), (38, .int .i64 (k : Int)), (10, .pointer (some ⟨b5, 0, none⟩)), (69, .slice oa xo.length oc), (70, .int .i64 (xo.length : Int)), (71, .int .i64 (a : Int))]) (fun a => [blk tbl 135 ((tgL ((togS ((ls.map prP).take k)) ++ (xo.take a).flatMap (fun j : Int => xi.map fun i => (i, j)))).flatMap eBool), blk b5 61 [.slice ia xi.length ic, .slice oa xo.length oc], blk b1 32 [.slice none 0 0, .int .i64 0, .slice none 0 0]]) (fun a => xo.length - a) 0 (Nat.zero_le _) ⟨rfl, rfl, rfl, rfl, rfl, rfl, rfl, rfl, rfl, rfl, rfl, rfl, trivial⟩ (fun _ hs => by have h1 := (((((hs.pull (.there (.there (.there (.there .here))))).pull (.there .here)).pull (.there (.there (.there (.there .here))))).pull (.there (.there (.there .here)))).drop.pull (.there (.there (.there .here)))).drop; (try dsimp only); rw [show ((togS ((ls.map prP).take k)) ++ (xo.take 0).flatMap (fun j : Int => xi.map fun i => (i, j))) = (togS ((ls.map prP).take k)) from List.append_nil _]; exact h1) ?_
                  intro a hI
                  have hIa := hI
                  refine Cd.seq ?_
                  refine Cd.region ?_
                  by_cases ha : (a : Int) < (xo.length : Int)
                  · refine Ops.q (q_cmp rfl rfl (c_lt ha)) ?_
                    obtain ⟨yo, hy⟩ : ∃ x, xo[a]? = some x := ⟨_, List.getElem?_eq_getElem (by omega)⟩
                    obtain ⟨ob, oo, rfl⟩ := RoL.pos hxo eInt_len hy
                    have hyw := setE_ok hso0 yo (List.mem_iff_getElem?.2 ⟨a, hy⟩)
                    unfold wi at hyw
                    obtain ⟨yn, hyn⟩ : ∃ j : Nat, yo = (j : Int) := ⟨yo.toNat, by omega⟩
                    refine Ops.to rfl ?_
                    refine Cd.seq ?_
                    refine Cd.cond_t rfl ?_
                    refine Cd.skipTo rfl ?_
                    refine Cd.seq ?_
                    refine Cd.block ?_
                    refine Cd.seq ?_
                    refine Cd.region ?_
                    refine Ops.q (q_ix (k := a) esz_26 rfl rfl (by omega)) ?_
                    refine Ops.q (q_ldR isA_3 rfl (hxo.at0 eInt_len hy rfl)) ?_
                    refine Ops.q (q_asg rfl) ?_
                    refine Ops.to rfl ?_
                    refine Cd.seq ?_
                    refine Cd.region ?_
                    refine Ops.q (q_fa fo_61_0 rfl) ?_
                    refine Ops.q (q_ldB isA_26 rfl (.there .here) rfl) ?_
                    refine Ops.q (q_len esz_26 rfl) ?_
                    refine Ops.q (q_mv rfl) ?_
                    refine Ops.to rfl ?_
                    refine Cd.block ?_
                    refine Cd.lp (σ := Nat) (fun b => b ≤ xi.length) (fun b => [(0, .int .i64 (m : Int)), (1, .int .i64 (n : Int)), (2, .slice (some ⟨lb, lo, none⟩) ls.length lc), (6, .pointer (some ⟨b1, 0, none⟩)), (8, .pointer (some ⟨tbl, 0, none⟩)), (36, .slice (some ⟨lb, lo, none⟩) ls.length lc), (37, .int .i64 (ls.length : Int)), (38, .int .i64 (k : Int)), (10, .pointer (some ⟨b5, 0, none⟩)), (69, .slice (some ⟨ob, oo, none⟩) xo.length oc), (70, .int .i64 (xo.length : Int)), (71, .int .i64 (a : Int)), (14, .int .i64 yo), (76, .slice ia xi.length ic), (77, .int .i64 (xi.length : Int)), (78, .int .i64 (b : Int))]) (fun b => [blk tbl 135 ((tgL (((togS ((ls.map prP).take k)) ++ (xo.take a).flatMap (fun j : Int => xi.map fun i => (i, j))) ++ (xi.take b).map (fun i => (i, yo)))).flatMap eBool), blk b5 61 [.slice ia xi.length ic, .slice (some ⟨ob, oo, none⟩) xo.length oc], blk b1 32 [.slice none 0 0, .int .i64 0, .slice none 0 0]]) (fun b => xi.length - b) 0 (Nat.zero_le _) ⟨rfl, rfl, rfl, rfl, rfl, rfl, rfl, rfl, rfl, rfl, rfl, rfl, rfl, rfl, rfl, rfl, trivial⟩ (fun _ hs => by have h1 := (((hs.pull (.there (.there .here))).pull (.there (.there .here))).pull (.there (.there .here))); (try dsimp only); rw [show (((togS ((ls.map prP).take k)) ++ (xo.take a).flatMap (fun j : Int => xi.map fun i => (i, j))) ++ (xi.take 0).map (fun i => (i, yo))) = ((togS ((ls.map prP).take k)) ++ (xo.take a).flatMap (fun j : Int => xi.map fun i => (i, j))) from List.append_nil _]; exact h1) ?_
                    intro b hI
                    have hIb := hI
                    refine Cd.seq ?_
                    refine Cd.region ?_
                    by_cases hb : (b : Int) < (xi.length : Int)
                    · refine Ops.q (q_cmp rfl rfl (c_lt hb)) ?_
                      obtain ⟨zi, hz⟩ : ∃ x, xi[b]? = some x := ⟨_, List.getElem?_eq_getElem (by omega)⟩
                      obtain ⟨ib, io, rfl⟩ := RoL.pos hxe eInt_len hz
                      have hzw := setE_ok hse0 zi (List.mem_iff_getElem?.2 ⟨b, hz⟩)
                      unfold wi at hzw
                      obtain ⟨zn, hzn⟩ : ∃ j : Nat, zi = (j : Int) := ⟨zi.toNat, by omega⟩
                      refine Ops.to rfl ?_
                      refine Cd.seq ?_
                      refine Cd.cond_t rfl ?_
                      refine Cd.skipTo rfl ?_
                      refine Cd.seq ?_
                      refine Cd.block ?_
                      refine Cd.seq ?_
                      refine Cd.region ?_
                      refine Ops.q (q_ix (k := b) esz_26 rfl rfl (by omega)) ?_
                      refine Ops.q (q_ldR isA_3 rfl (hxe.at0 eInt_len hz rfl)) ?_
                      refine Ops.q (q_asg rfl) ?_
                      refine Ops.to rfl ?_
                      refine Cd.region ?_
                      refine Ops.q (q_mv rfl) ?_
                      refine Ops.q (q_mv rfl) ?_
                      refine Ops.q (q_ixA (k := yn) asz_135 rfl (show some (Value.int .i64 yo) = some (.int .i64 (yn : Int)) from by rw [hyn]) (by omega)) ?_
                      refine Ops.q (q_ixA (k := zn) asz_134 rfl (show some (Value.int .i64 zi) = some (.int .i64 (zn : Int)) from by rw [hzn]) (by omega)) ?_
                      refine Ops.stB [.bool true] ((tgL ((((togS ((ls.map prP).take k)) ++ (xo.take a).flatMap (fun j : Int => xi.map fun i => (i, j))) ++ (xi.take b).map (fun i => (i, yo))) ++ [((zn : Int), (yn : Int))])).flatMap eBool) sz_4 rfl rfl rfl (one rfl) .here (ble_ok (by rw [tg_len]; simp only [List.length_cons, List.length_nil]; omega)) (tg_set (by omega) (by omega)) ?_
                      refine Ops.to rfl ?_
                      refine Cd.region ?_
                      refine Ops.q (q_ar rfl rfl (a_inc (by omega))) ?_
                      refine Ops.q (q_mv rfl) ?_
                      refine Ops.rnd (b + 1) rfl (by omega) (by omega) ⟨rfl, rfl, rfl, rfl, rfl, rfl, rfl, rfl, rfl, rfl, rfl, rfl, rfl, rfl, rfl, rfl, trivial⟩ (fun _ hs => by have h1 := (((hs.pull (.there (.there .here))).pull (.there (.there .here))).pull (.there (.there .here))); rw [← hzn, ← hyn] at h1; (try dsimp only); rw [mapT _ hz, ← List.append_assoc]; exact h1) 
                    · refine Ops.q (q_cmp rfl rfl (c_nlt (by omega))) ?_
                      refine Ops.to rfl ?_
                      refine Cd.seq ?_
                      refine Cd.cond_f rfl ?_
                      refine Cd.exitTo rfl ?_
                      refine Cd.region ?_
                      refine Ops.q (q_ar rfl rfl (a_inc (by omega))) ?_
                      refine Ops.q (q_mv rfl) ?_
                      refine Ops.rnd (a + 1) rfl (by omega) (by omega) ⟨rfl, rfl, rfl, rfl, rfl, rfl, rfl, rfl, rfl, rfl, rfl, rfl, trivial⟩ (fun _ hs => by have h1 := (((hs.pull (.there (.there .here))).pull (.there (.there .here))).pull (.there (.there .here))); rw [List.take_of_length_le (show xi.length ≤ b by omega)] at h1; (try dsimp only); rw [fmT36 _ hy, ← List.append_assoc]; exact h1) 
                  · refine Ops.q (q_cmp rfl rfl (c_nlt (by omega))) ?_
                    refine Ops.to rfl ?_
                    refine Cd.seq ?_
                    refine Cd.cond_f rfl ?_
                    refine Cd.exitTo rfl ?_
                    refine Cd.region ?_
                    refine Ops.q (q_ar rfl rfl (a_inc (by omega))) ?_
                    refine Ops.q (q_mv rfl) ?_
                    refine Ops.rnd (k + 1) rfl (⟨by omega, by rw [← hIk.2]; exact (firstE_step hxq (memE_0 hse0 hso0)).symm⟩) (by omega) ⟨rfl, rfl, rfl, rfl, rfl, rfl, rfl, rfl, trivial⟩ (fun _ hs => by have h1 := (((hs.pull (.there (.there .here))).pull (.there .here)).pull (.there (.there .here))).drop; rw [List.take_of_length_le (show xo.length ≤ a by omega)] at h1; (try dsimp only); rw [togS_step hxq]; exact h1) 
                · refine Ops.q (q_cmp rfl rfl (c_ne hso0)) ?_
                  refine Ops.q (q_pickF rfl rfl) ?_
                  refine Ops.q (q_asg rfl) ?_
                  refine Ops.to rfl ?_
                  refine Cd.cond_t rfl ?_
                  refine Cd.seq ?_
                  refine Cd.region ?_
                  refine Ops.q (q_bld [.slice none 0 0, .int .i64 0, .slice none 0 0] pls_32 zc_32 rfl rfl) ?_
                  refine Ops.stB [.slice none 0 0, .int .i64 0, .slice none 0 0] [.slice none 0 0, .int .i64 0, .slice none 0 0] sz_32 rfl rfl rfl (one rfl) (.there (.there (.there (.there .here)))) rfl rfl ?_
                  refine Ops.q (q_asg rfl) ?_
                  refine Ops.to rfl ?_
                  refine Cd.rt (fn := Try.f28) [.agg [.slice none 0 0, .int .i64 0, .slice none 0 0].toArray, .int .i64 5] (by with_reducible repeat (first | exact rq_here | apply rq_then | apply rq_block)) rfl ⟨⟨_, _, rfl, fun _ hs => run_loadN isA_32 sz_32 (fun o u hu => Sat.atB (.there (.there (.there (.there .here)))) (by rw [Nat.zero_add]; exact hu) hs)⟩, rfl, trivial⟩ ?_
                  intro w' hs'
                  have h8 : memE (m : Int) (n : Int) (xi, xo) = 5 := memE_5 (by simp_all) (by simp_all)
                  have h9 : firstE (memE (m : Int) (n : Int)) (ls.map prP) = 5 := by rw [← hI.2, firstE_stop hxq (by rw [h8]; decide), h8]
                  rw [show memP (m : Int) (n : Int) (ls.map prP) = .error (5) by unfold memP; rw [if_pos hwmn, if_neg (by rw [List.length_map]; omega), h9, if_pos (by decide)]]
                  exact ⟨rfl, hs'.none⟩
              · refine Ops.q (q_cmp rfl rfl (c_ne hse0)) ?_
                refine Ops.q (q_mv rfl) ?_
                refine Ops.sk ?_
                refine Ops.sk ?_
                refine Ops.q (q_pickT rfl rfl) ?_
                refine Ops.q (q_asg rfl) ?_
                refine Ops.to rfl ?_
                refine Cd.cond_t rfl ?_
                refine Cd.seq ?_
                refine Cd.region ?_
                refine Ops.q (q_bld [.slice none 0 0, .int .i64 0, .slice none 0 0] pls_32 zc_32 rfl rfl) ?_
                refine Ops.stB [.slice none 0 0, .int .i64 0, .slice none 0 0] [.slice none 0 0, .int .i64 0, .slice none 0 0] sz_32 rfl rfl rfl (one rfl) (.there (.there (.there (.there .here)))) rfl rfl ?_
                refine Ops.q (q_asg rfl) ?_
                refine Ops.to rfl ?_
                refine Cd.rt (fn := Try.f28) [.agg [.slice none 0 0, .int .i64 0, .slice none 0 0].toArray, .int .i64 5] (by with_reducible repeat (first | exact rq_here | apply rq_then | apply rq_block)) rfl ⟨⟨_, _, rfl, fun _ hs => run_loadN isA_32 sz_32 (fun o u hu => Sat.atB (.there (.there (.there (.there .here)))) (by rw [Nat.zero_add]; exact hu) hs)⟩, rfl, trivial⟩ ?_
                intro w' hs'
                have h8 : memE (m : Int) (n : Int) (xi, xo) = 5 := memE_5 (by simp_all) (by simp_all)
                have h9 : firstE (memE (m : Int) (n : Int)) (ls.map prP) = 5 := by rw [← hI.2, firstE_stop hxq (by rw [h8]; decide), h8]
                rw [show memP (m : Int) (n : Int) (ls.map prP) = .error (5) by unfold memP; rw [if_pos hwmn, if_neg (by rw [List.length_map]; omega), h9, if_pos (by decide)]]
                exact ⟨rfl, hs'.none⟩
        · refine Ops.q (q_cmp rfl rfl (c_nlt (by omega))) ?_
          have h9 : firstE (memE (m : Int) (n : Int)) (ls.map prP) = 0 := by rw [← hI.2, firstE_end (by rw [List.length_map]; omega)]
          refine Ops.to rfl ?_
          refine Cd.seq ?_
          refine Cd.cond_f rfl ?_
          refine Cd.exitTo rfl ?_
          refine Cd.seq ?_
          refine Cd.region ?_
          refine Ops.q (q_mv rfl) ?_
          refine Ops.q (q_ar (v := ((m + 1 : Nat) : Int)) rfl rfl (a_inc (by omega))) ?_
          refine Ops.q (q_bld [.slice none 0 0, .int .i64 ((m + 1 : Nat) : Int), .slice none 0 0] pls_32 zc_32 rfl rfl) ?_
          refine Ops.q (q_bld [.slice none 0 0, .int .i64 ((m + 1 : Nat) : Int), .slice none 0 0] pls_114 zc_114 rfl rfl) ?_
          refine Ops.alc [.slice none 0 0, .int .i64 0, .slice none 0 0] zc_114 ?_
          intro b13
          refine Ops.stB [.slice none 0 0, .int .i64 ((m + 1 : Nat) : Int), .slice none 0 0] [.slice none 0 0, .int .i64 ((m + 1 : Nat) : Int), .slice none 0 0] sz_114 rfl rfl rfl (one rfl) .here rfl rfl ?_
          refine Ops.to rfl ?_
          refine Cd.seq ?_
          refine Cd.nilRow 126 4 ?_
          refine Cd.nilRow 116 8 ?_
          change Cd _ _ _ _ _ _ _ _ ([row none 0 116 8 (([] : List Prm).length) (([] : List Prm).flatMap ePrm), row none 0 126 4 (([] : List Syn).length) (([] : List Syn).flatMap eSyn), blk b13 114 [.slice none (([] : List Prm).length) 0, .int .i64 ((m + 1 : Nat) : Int), .slice none (([] : List Syn).length) 0], blk tbl 135 ((tgL (togS ((ls.map prP).take k))).flatMap eBool), blk b1 32 [.slice none 0 0, .int .i64 0, .slice none 0 0]])
          refine Cd.region ?_
          refine Ops.cp en_48 rfl (fun w hs => gate_c w) ?_
          refine Ops.cl (α := Nat × Nat) (v := fun x => .func (.func 86) #[] #[.pointer (some ⟨x.1, 0, none⟩), .pointer (some ⟨x.2, 0, none⟩)]) (B := fun x => [blk x.1 116 (ePrm (gateP 0)), blk x.2 161 [.pointer (some ⟨b13, 0, none⟩)]]) en_49 rfl (fun w hs => grow_c b13 (gateP 0) w) ?_
          rintro ⟨pb14, bb15⟩
          refine Ops.lit [.int .i64 1] el_26 zsb_3 rfl rfl ⟨by decide, by decide⟩ rfl ?_
          intro b16
          refine Ops.q (q_mv rfl) ?_
          refine Ops.cm (α := Option Addr × Nat) (v := fun p => .slice p.1 (List.replicate n (1 : Int)).length p.2) (A' := fun p => row p.1 p.2 3 1 (List.replicate n (1 : Int)).length ((List.replicate n (1 : Int)).flatMap eInt) :: [row (some ⟨b16, 0, none⟩) 1 3 1 1 [.int .i64 1], blk pb14 116 (ePrm (gateP 0)), blk bb15 161 [.pointer (some ⟨b13, 0, none⟩)], row none 0 116 8 (([] : List Prm).length) (([] : List Prm).flatMap ePrm), row none 0 126 4 (([] : List Syn).length) (([] : List Syn).flatMap eSyn), blk b13 114 [.slice none (([] : List Prm).length) 0, .int .i64 ((m + 1 : Nat) : Int), .slice none (([] : List Syn).length) 0], blk tbl 135 ((tgL (togS ((ls.map prP).take k))).flatMap eBool), blk b1 32 [.slice none 0 0, .int .i64 0, .slice none 0 0]]) en_52 rfl (fun w hs => repeat_l b16 1 n _ w _ (by omega) (((((((((hs.pull (.there (.there (.there (.there (.there (.there (.there .here)))))))).pull (.there (.there (.there (.there (.there (.there (.there .here)))))))).pull (.there (.there (.there (.there (.there (.there (.there .here)))))))).pull (.there (.there (.there (.there (.there (.there (.there .here)))))))).pull (.there (.there (.there (.there (.there (.there (.there .here)))))))).pull (.there (.there (.there (.there (.there (.there (.there .here)))))))).pull (.there (.there (.there (.there (.there (.there (.there .here)))))))).pull (.there (.there (.there (.there (.there (.there (.there .here)))))))))) ?_
          rintro ⟨a17, c18⟩
          refine Ops.cv (α := Option Addr × Nat) (k := 86) (first := []) (caps := [.pointer (some ⟨pb14, 0, none⟩), .pointer (some ⟨bb15, 0, none⟩)]) (vs := [.slice a17 ((List.replicate n (1 : Int)).length) c18]) (v := fun _ => .tuple #[]) (A' := fun p => [blk b13 114 [.slice p.1 ((([] : List Prm) ++ (List.replicate n (1 : Int)).map (setTh (gateP 0))).length) p.2, .int .i64 ((m + 1 : Nat) : Int), .slice none (([] : List Syn).length) 0], row p.1 p.2 116 8 ((([] : List Prm) ++ (List.replicate n (1 : Int)).map (setTh (gateP 0))).length) ((([] : List Prm) ++ (List.replicate n (1 : Int)).map (setTh (gateP 0))).flatMap ePrm), row none 0 126 4 (([] : List Syn).length) (([] : List Syn).flatMap eSyn), blk pb14 116 (ePrm (gateP 0)), blk bb15 161 [.pointer (some ⟨b13, 0, none⟩)], row a17 c18 3 1 ((List.replicate n (1 : Int)).length) ((List.replicate n (1 : Int)).flatMap eInt), row (some ⟨b16, 0, none⟩) 1 3 1 1 [.int .i64 1], blk tbl 135 ((tgL (togS ((ls.map prP).take k))).flatMap eBool), blk b1 32 [.slice none 0 0, .int .i64 0, .slice none 0 0]]) en_86 rfl rfl (fun w hs => grown_c b13 _ _ _ _ ([] : List Prm) _ ([] : List Syn) pb14 bb15 _ _ (List.replicate n (1 : Int)) _ _ w _ (by simp only [List.length_append, List.length_map, List.length_take, List.length_cons, List.length_nil, List.length_replicate]; omega) ((((((((((hs.pull (.there (.there (.there (.there (.there (.there (.there (.there .here))))))))).pull (.there (.there (.there (.there (.there (.there (.there (.there .here))))))))).pull (.there (.there (.there .here)))).pull (.there (.there (.there .here)))).pull (.there (.there (.there (.there (.there .here)))))).pull (.there (.there (.there (.there (.there .here)))))).pull (.there (.there (.there (.there (.there (.there (.there .here)))))))).pull (.there (.there (.there (.there (.there (.there (.there .here)))))))).pull (.there (.there (.there (.there (.there (.there (.there (.there .here))))))))))) ?_
          rintro ⟨a19, c20⟩
          refine Ops.to rfl ?_
          refine Cd.seq ?_
          refine Cd.seq ?_
          refine Cd.region ?_
          refine Ops.q (q_mv rfl) ?_
          refine Ops.q (q_mv rfl) ?_
          refine Ops.to rfl ?_
          refine Cd.block ?_
          refine Cd.lp (σ := Nat × Option Addr × Nat) (fun s => s.1 ≤ n) (fun s => [(0, .int .i64 (m : Int)), (1, .int .i64 (n : Int)), (6, .pointer (some ⟨b1, 0, none⟩)), (8, .pointer (some ⟨tbl, 0, none⟩)), (17, .pointer (some ⟨b13, 0, none⟩)), (99, .int .i64 (n : Int)), (100, .int .i64 (s.1 : Int))]) (fun s => [blk b13 114 [.slice a19 ((([] : List Prm) ++ (List.replicate n (1 : Int)).map (setTh (gateP 0))).length) c20, .int .i64 ((m + 1 : Nat) : Int), .slice s.2.1 ((([] : List Syn) ++ memTo m (togS ((ls.map prP).take k)) s.1).length) s.2.2], row a19 c20 116 8 ((([] : List Prm) ++ (List.replicate n (1 : Int)).map (setTh (gateP 0))).length) ((([] : List Prm) ++ (List.replicate n (1 : Int)).map (setTh (gateP 0))).flatMap ePrm), row s.2.1 s.2.2 126 4 ((([] : List Syn) ++ memTo m (togS ((ls.map prP).take k)) s.1).length) ((([] : List Syn) ++ memTo m (togS ((ls.map prP).take k)) s.1).flatMap eSyn), blk tbl 135 ((tgL (togS ((ls.map prP).take k))).flatMap eBool), blk b1 32 [.slice none 0 0, .int .i64 0, .slice none 0 0]]) (fun s => n - s.1) (0, none, 0) (Nat.zero_le _) ⟨rfl, rfl, rfl, rfl, rfl, rfl, rfl, trivial⟩ (fun _ hs => by have h1 := (((((((((hs.pull (.there (.there (.there (.there (.there (.there (.there (.there .here))))))))).pull (.there (.there (.there (.there (.there (.there (.there (.there .here))))))))).pull (.there (.there (.there (.there .here))))).pull (.there (.there (.there (.there .here))))).pull (.there (.there (.there (.there .here))))).pull (.there (.there (.there (.there (.there .here)))))).drop.pull (.there (.there (.there (.there (.there .here)))))).drop.pull (.there (.there (.there (.there (.there .here)))))).drop.pull (.there (.there (.there (.there (.there .here)))))).drop; dsimp only; rw [show (([] : List Syn) ++ memTo m (togS ((ls.map prP).take k)) 0) = ([] : List Syn) from List.append_nil _]; exact h1) ?_
          rintro ⟨j, qa, qc⟩ hI
          dsimp only at hI
          change Cd _ _ _ _ _ _ _ [(0, .int .i64 (m : Int)), (1, .int .i64 (n : Int)), (6, .pointer (some ⟨b1, 0, none⟩)), (8, .pointer (some ⟨tbl, 0, none⟩)), (17, .pointer (some ⟨b13, 0, none⟩)), (99, .int .i64 (n : Int)), (100, .int .i64 (j : Int))] ([blk b13 114 [.slice a19 ((([] : List Prm) ++ (List.replicate n (1 : Int)).map (setTh (gateP 0))).length) c20, .int .i64 ((m + 1 : Nat) : Int), .slice qa ((([] : List Syn) ++ memTo m (togS ((ls.map prP).take k)) j).length) qc], row a19 c20 116 8 ((([] : List Prm) ++ (List.replicate n (1 : Int)).map (setTh (gateP 0))).length) ((([] : List Prm) ++ (List.replicate n (1 : Int)).map (setTh (gateP 0))).flatMap ePrm), row qa qc 126 4 ((([] : List Syn) ++ memTo m (togS ((ls.map prP).take k)) j).length) ((([] : List Syn) ++ memTo m (togS ((ls.map prP).take k)) j).flatMap eSyn), blk tbl 135 ((tgL (togS ((ls.map prP).take k))).flatMap eBool), blk b1 32 [.slice none 0 0, .int .i64 0, .slice none 0 0]])
          refine Cd.seq ?_
          refine Cd.region ?_
          by_cases hj0 : (j : Int) < (n : Int)
          · refine Ops.q (q_cmp rfl rfl (c_lt hj0)) ?_
            have hml := memTo_len m (togS ((ls.map prP).take k)) j
            have hjm : j * (m + 1) ≤ 64 * 65 := Nat.mul_le_mul (by omega) (by omega)
            refine Ops.to rfl ?_
            refine Cd.seq ?_
            refine Cd.cond_t rfl ?_
            refine Cd.skipTo rfl ?_
            refine Cd.seq ?_
            refine Cd.block ?_
            refine Cd.seq ?_
            refine Cd.region ?_
            refine Ops.q (q_mv rfl) ?_
            refine Ops.q (q_asg rfl) ?_
            refine Ops.to rfl ?_
            refine Cd.seq ?_
            refine Cd.region ?_
            refine Ops.q (q_mv rfl) ?_
            refine Ops.q (q_mv rfl) ?_
            refine Ops.cm (α := Option Addr × Nat) (v := fun _ => .tuple #[]) (A' := fun p => [blk b13 114 [.slice a19 ((([] : List Prm) ++ (List.replicate n (1 : Int)).map (setTh (gateP 0))).length) c20, .int .i64 ((m + 1 : Nat) : Int), .slice p.1 (((([] : List Syn) ++ memTo m (togS ((ls.map prP).take k)) j) ++ [(⟨-1 - (m : Int), (j : Int), 1, 1⟩ : Syn)]).length) p.2], row a19 c20 116 8 ((([] : List Prm) ++ (List.replicate n (1 : Int)).map (setTh (gateP 0))).length) ((([] : List Prm) ++ (List.replicate n (1 : Int)).map (setTh (gateP 0))).flatMap ePrm), row p.1 p.2 126 4 (((([] : List Syn) ++ memTo m (togS ((ls.map prP).take k)) j) ++ [(⟨-1 - (m : Int), (j : Int), 1, 1⟩ : Syn)]).length) (((([] : List Syn) ++ memTo m (togS ((ls.map prP).take k)) j) ++ [(⟨-1 - (m : Int), (j : Int), 1, 1⟩ : Syn)]).flatMap eSyn), blk tbl 135 ((tgL (togS ((ls.map prP).take k))).flatMap eBool), blk b1 32 [.slice none 0 0, .int .i64 0, .slice none 0 0]]) en_51 rfl (fun w hs => feed_c _ _ _ _ _ (([] : List Prm) ++ (List.replicate n (1 : Int)).map (setTh (gateP 0))) _ (([] : List Syn) ++ memTo m (togS ((ls.map prP).take k)) j) (m : Int) (j : Int) 1 1 _ w _ (by simp only [List.length_append, List.length_cons, List.length_nil]; omega) (by omega) ((((((hs.pull (.there (.there (.there (.there .here))))).pull (.there (.there (.there (.there .here))))).pull (.there (.there (.there (.there .here))))).pull (.there (.there (.there (.there .here))))).pull (.there (.there (.there (.there .here))))))) ?_
            rintro ⟨a21, c22⟩
            refine Ops.to rfl ?_
            refine Cd.seq ?_
            refine Cd.region ?_
            refine Ops.q (q_mv rfl) ?_
            refine Ops.q (q_ixA (k := j) asz_135 rfl rfl (by omega)) ?_
            refine Ops.q (q_mv rfl) ?_
            refine Ops.q (q_cutA (k := m) asz_134 rfl rfl (by omega)) ?_
            refine Ops.q (q_len esz_23 rfl) ?_
            refine Ops.q (q_mv rfl) ?_
            refine Ops.to rfl ?_
            refine Cd.block ?_
            refine Cd.lp (σ := Nat × Option Addr × Nat) (fun s => s.1 ≤ m) (fun s => [(0, .int .i64 (m : Int)), (1, .int .i64 (n : Int)), (6, .pointer (some ⟨b1, 0, none⟩)), (8, .pointer (some ⟨tbl, 0, none⟩)), (17, .pointer (some ⟨b13, 0, none⟩)), (99, .int .i64 (n : Int)), (100, .int .i64 (j : Int)), (18, .int .i64 (j : Int)), (109, .slice (some ⟨tbl, 0 + j * 64, none⟩) m 64), (110, .int .i64 (m : Int)), (111, .int .i64 (s.1 : Int))]) (fun s => [blk b13 114 [.slice a19 ((([] : List Prm) ++ (List.replicate n (1 : Int)).map (setTh (gateP 0))).length) c20, .int .i64 ((m + 1 : Nat) : Int), .slice s.2.1 ((((([] : List Syn) ++ memTo m (togS ((ls.map prP).take k)) j) ++ [(⟨-1 - (m : Int), (j : Int), 1, 1⟩ : Syn)]) ++ memRow m (togS ((ls.map prP).take k)) j s.1).length) s.2.2], row a19 c20 116 8 ((([] : List Prm) ++ (List.replicate n (1 : Int)).map (setTh (gateP 0))).length) ((([] : List Prm) ++ (List.replicate n (1 : Int)).map (setTh (gateP 0))).flatMap ePrm), row s.2.1 s.2.2 126 4 ((((([] : List Syn) ++ memTo m (togS ((ls.map prP).take k)) j) ++ [(⟨-1 - (m : Int), (j : Int), 1, 1⟩ : Syn)]) ++ memRow m (togS ((ls.map prP).take k)) j s.1).length) ((((([] : List Syn) ++ memTo m (togS ((ls.map prP).take k)) j) ++ [(⟨-1 - (m : Int), (j : Int), 1, 1⟩ : Syn)]) ++ memRow m (togS ((ls.map prP).take k)) j s.1).flatMap eSyn), blk tbl 135 ((tgL (togS ((ls.map prP).take k))).flatMap eBool), blk b1 32 [.slice none 0 0, .int .i64 0, .slice none 0 0]]) (fun s => m - s.1) (0, a21, c22) (Nat.zero_le _) ⟨rfl, rfl, rfl, rfl, rfl, rfl, rfl, rfl, rfl, rfl, rfl, trivial⟩ (fun _ hs => by have h1 := (((((hs.pull (.there (.there (.there (.there .here))))).pull (.there (.there (.there (.there .here))))).pull (.there (.there (.there (.there .here))))).pull (.there (.there (.there (.there .here))))).pull (.there (.there (.there (.there .here))))); dsimp only; rw [show (((([] : List Syn) ++ memTo m (togS ((ls.map prP).take k)) j) ++ [(⟨-1 - (m : Int), (j : Int), 1, 1⟩ : Syn)]) ++ memRow m (togS ((ls.map prP).take k)) j 0) = ((([] : List Syn) ++ memTo m (togS ((ls.map prP).take k)) j) ++ [(⟨-1 - (m : Int), (j : Int), 1, 1⟩ : Syn)]) from List.append_nil _]; exact h1) ?_
            rintro ⟨i, ra, rc⟩ hI
            dsimp only at hI
            change Cd _ _ _ _ _ _ _ [(0, .int .i64 (m : Int)), (1, .int .i64 (n : Int)), (6, .pointer (some ⟨b1, 0, none⟩)), (8, .pointer (some ⟨tbl, 0, none⟩)), (17, .pointer (some ⟨b13, 0, none⟩)), (99, .int .i64 (n : Int)), (100, .int .i64 (j : Int)), (18, .int .i64 (j : Int)), (109, .slice (some ⟨tbl, 0 + j * 64, none⟩) m 64), (110, .int .i64 (m : Int)), (111, .int .i64 (i : Int))] ([blk b13 114 [.slice a19 ((([] : List Prm) ++ (List.replicate n (1 : Int)).map (setTh (gateP 0))).length) c20, .int .i64 ((m + 1 : Nat) : Int), .slice ra ((((([] : List Syn) ++ memTo m (togS ((ls.map prP).take k)) j) ++ [(⟨-1 - (m : Int), (j : Int), 1, 1⟩ : Syn)]) ++ memRow m (togS ((ls.map prP).take k)) j i).length) rc], row a19 c20 116 8 ((([] : List Prm) ++ (List.replicate n (1 : Int)).map (setTh (gateP 0))).length) ((([] : List Prm) ++ (List.replicate n (1 : Int)).map (setTh (gateP 0))).flatMap ePrm), row ra rc 126 4 ((((([] : List Syn) ++ memTo m (togS ((ls.map prP).take k)) j) ++ [(⟨-1 - (m : Int), (j : Int), 1, 1⟩ : Syn)]) ++ memRow m (togS ((ls.map prP).take k)) j i).length) ((((([] : List Syn) ++ memTo m (togS ((ls.map prP).take k)) j) ++ [(⟨-1 - (m : Int), (j : Int), 1, 1⟩ : Syn)]) ++ memRow m (togS ((ls.map prP).take k)) j i).flatMap eSyn), blk tbl 135 ((tgL (togS ((ls.map prP).take k))).flatMap eBool), blk b1 32 [.slice none 0 0, .int .i64 0, .slice none 0 0]])
            refine Cd.seq ?_
            refine Cd.region ?_
            by_cases hi0 : (i : Int) < (m : Int)
            · refine Ops.q (q_cmp rfl rfl (c_lt hi0)) ?_
              have hrl := memRow_len m (togS ((ls.map prP).take k)) j i
              refine Ops.to rfl ?_
              refine Cd.seq ?_
              refine Cd.cond_t rfl ?_
              refine Cd.skipTo rfl ?_
              refine Cd.seq ?_
              refine Cd.block ?_
              refine Cd.seq ?_
              refine Cd.region ?_
              refine Ops.q (q_mv rfl) ?_
              refine Ops.q (q_ix (k := i) esz_23 rfl rfl (by omega)) ?_
              by_cases hin : ((i : Int), (j : Int)) ∈ (togS ((ls.map prP).take k))
              · refine Ops.q (q_ldB (v := .bool true) isA_4 rfl (.there (.there (.there .here))) (by rw [tg_get (by omega) (by omega)]; simp [hin])) ?_
                refine Ops.q (q_asg rfl) ?_
                refine Ops.q (q_asg rfl) ?_
                refine Ops.to rfl ?_
                refine Cd.seq ?_
                refine Cd.region ?_
                refine Ops.q (q_mv rfl) ?_
                refine Ops.q (q_not rfl) ?_
                refine Ops.to rfl ?_
                refine Cd.cond_f rfl ?_
                refine Cd.skipTo rfl ?_
                refine Cd.region ?_
                refine Ops.q (q_ar rfl rfl (a_inc (by omega))) ?_
                refine Ops.q (q_mv rfl) ?_
                refine Ops.rnd ((i + 1, ra, rc)) rfl (by dsimp only; exact (by omega)) (by dsimp only; omega) ⟨rfl, rfl, rfl, rfl, rfl, rfl, rfl, rfl, rfl, rfl, rfl, trivial⟩ (fun _ hs => by have h1 := (((((hs.pull (.there (.there (.there (.there .here))))).pull (.there (.there (.there (.there .here))))).pull (.there (.there (.there (.there .here))))).pull (.there (.there (.there (.there .here))))).pull (.there (.there (.there (.there .here))))); dsimp only; rw [memRow_step, memCell, if_pos hin, List.append_nil]; exact h1) 
              · refine Ops.q (q_ldB (v := .bool false) isA_4 rfl (.there (.there (.there .here))) (by rw [tg_get (by omega) (by omega)]; simp [hin])) ?_
                refine Ops.q (q_asg rfl) ?_
                refine Ops.q (q_asg rfl) ?_
                refine Ops.to rfl ?_
                refine Cd.seq ?_
                refine Cd.region ?_
                refine Ops.q (q_mv rfl) ?_
                refine Ops.q (q_not rfl) ?_
                refine Ops.to rfl ?_
                refine Cd.cond_t rfl ?_
                refine Cd.region ?_
                refine Ops.q (q_mv rfl) ?_
                refine Ops.q (q_mv rfl) ?_
                refine Ops.cm (α := Option Addr × Nat) (v := fun _ => .tuple #[]) (A' := fun p => [blk b13 114 [.slice a19 ((([] : List Prm) ++ (List.replicate n (1 : Int)).map (setTh (gateP 0))).length) c20, .int .i64 ((m + 1 : Nat) : Int), .slice p.1 (((((([] : List Syn) ++ memTo m (togS ((ls.map prP).take k)) j) ++ [(⟨-1 - (m : Int), (j : Int), 1, 1⟩ : Syn)]) ++ memRow m (togS ((ls.map prP).take k)) j i) ++ [(⟨-1 - (i : Int), (j : Int), -1, 1⟩ : Syn)]).length) p.2], row a19 c20 116 8 ((([] : List Prm) ++ (List.replicate n (1 : Int)).map (setTh (gateP 0))).length) ((([] : List Prm) ++ (List.replicate n (1 : Int)).map (setTh (gateP 0))).flatMap ePrm), row p.1 p.2 126 4 (((((([] : List Syn) ++ memTo m (togS ((ls.map prP).take k)) j) ++ [(⟨-1 - (m : Int), (j : Int), 1, 1⟩ : Syn)]) ++ memRow m (togS ((ls.map prP).take k)) j i) ++ [(⟨-1 - (i : Int), (j : Int), -1, 1⟩ : Syn)]).length) (((((([] : List Syn) ++ memTo m (togS ((ls.map prP).take k)) j) ++ [(⟨-1 - (m : Int), (j : Int), 1, 1⟩ : Syn)]) ++ memRow m (togS ((ls.map prP).take k)) j i) ++ [(⟨-1 - (i : Int), (j : Int), -1, 1⟩ : Syn)]).flatMap eSyn), blk tbl 135 ((tgL (togS ((ls.map prP).take k))).flatMap eBool), blk b1 32 [.slice none 0 0, .int .i64 0, .slice none 0 0]]) en_51 rfl (fun w hs => feed_c _ _ _ _ _ (([] : List Prm) ++ (List.replicate n (1 : Int)).map (setTh (gateP 0))) _ (((([] : List Syn) ++ memTo m (togS ((ls.map prP).take k)) j) ++ [(⟨-1 - (m : Int), (j : Int), 1, 1⟩ : Syn)]) ++ memRow m (togS ((ls.map prP).take k)) j i) (i : Int) (j : Int) (-1) 1 _ w _ (by simp only [List.length_append, List.length_cons, List.length_nil]; omega) (by omega) ((((((hs.pull (.there (.there (.there (.there .here))))).pull (.there (.there (.there (.there .here))))).pull (.there (.there (.there (.there .here))))).pull (.there (.there (.there (.there .here))))).pull (.there (.there (.there (.there .here))))))) ?_
                rintro ⟨a23, c24⟩
                refine Ops.to rfl ?_
                refine Cd.region ?_
                refine Ops.q (q_ar rfl rfl (a_inc (by omega))) ?_
                refine Ops.q (q_mv rfl) ?_
                refine Ops.rnd ((i + 1, a23, c24)) rfl (by dsimp only; exact (by omega)) (by dsimp only; omega) ⟨rfl, rfl, rfl, rfl, rfl, rfl, rfl, rfl, rfl, rfl, rfl, trivial⟩ (fun _ hs => by have h1 := (((((hs.pull (.there (.there (.there (.there .here))))).pull (.there (.there (.there (.there .here))))).pull (.there (.there (.there (.there .here))))).pull (.there (.there (.there (.there .here))))).pull (.there (.there (.there (.there .here))))); dsimp only; rw [memRow_step, memCell, if_neg hin]; exact h1) 
            · refine Ops.q (q_cmp rfl rfl (c_nlt (by omega))) ?_
              refine Ops.to rfl ?_
              refine Cd.seq ?_
              refine Cd.cond_f rfl ?_
              refine Cd.exitTo rfl ?_
              refine Cd.region ?_
              refine Ops.q (q_ar rfl rfl (a_inc (by omega))) ?_
              refine Ops.q (q_mv rfl) ?_
              refine Ops.rnd ((j + 1, ra, rc)) rfl (by dsimp only; exact (by omega)) (by dsimp only; omega) ⟨rfl, rfl, rfl, rfl, rfl, rfl, rfl, trivial⟩ (fun _ hs => by have h1 := (((((hs.pull (.there (.there (.there (.there .here))))).pull (.there (.there (.there (.there .here))))).pull (.there (.there (.there (.there .here))))).pull (.there (.there (.there (.there .here))))).pull (.there (.there (.there (.there .here))))); have hie : i = m := (by omega); rw [hie] at h1; dsimp only; rw [memTo_step]; exact h1) 
          · refine Ops.q (q_cmp rfl rfl (c_nlt (by omega))) ?_
            refine Ops.to rfl ?_
            refine Cd.seq ?_
            refine Cd.cond_f rfl ?_
            refine Cd.exitTo rfl ?_
            refine Cd.seq ?_
            refine Cd.region ?_
            refine Ops.q (q_fa fo_114_0 rfl) ?_
            refine Ops.q (q_ldBN [.slice a19 ((([] : List Prm) ++ (List.replicate n (1 : Int)).map (setTh (gateP 0))).length) c20, .int .i64 ((m + 1 : Nat) : Int), .slice qa ((([] : List Syn) ++ memTo m (togS ((ls.map prP).take k)) j).length) qc] isA_32 sz_32 rfl .here rfl) ?_
            refine Ops.stB [.slice a19 ((([] : List Prm) ++ (List.replicate n (1 : Int)).map (setTh (gateP 0))).length) c20, .int .i64 ((m + 1 : Nat) : Int), .slice qa ((([] : List Syn) ++ memTo m (togS ((ls.map prP).take k)) j).length) qc] [.slice a19 ((([] : List Prm) ++ (List.replicate n (1 : Int)).map (setTh (gateP 0))).length) c20, .int .i64 ((m + 1 : Nat) : Int), .slice qa ((([] : List Syn) ++ memTo m (togS ((ls.map prP).take k)) j).length) qc] sz_32 rfl rfl rfl (one rfl) (.there (.there (.there (.there .here)))) rfl rfl ?_
            refine Ops.q (q_asg rfl) ?_
            refine Ops.to rfl ?_
            refine Cd.rt (fn := Try.f28) [.agg [.slice a19 ((([] : List Prm) ++ (List.replicate n (1 : Int)).map (setTh (gateP 0))).length) c20, .int .i64 ((m + 1 : Nat) : Int), .slice qa ((([] : List Syn) ++ memTo m (togS ((ls.map prP).take k)) j).length) qc].toArray, .int .i64 0] (by with_reducible repeat (first | exact rq_here | apply rq_then | apply rq_block)) rfl ⟨⟨_, _, rfl, fun _ hs => run_loadN isA_32 sz_32 (fun o u hu => Sat.atB (.there (.there (.there (.there .here)))) (by rw [Nat.zero_add]; exact hu) hs)⟩, rfl, trivial⟩ ?_
            intro w' hs'
            have hj : j = n := by omega
            rw [hj, List.take_of_length_le (show (ls.map prP).length ≤ k from (by rw [List.length_map]; omega))] at hs'
            have hP : memP (m : Int) (n : Int) (ls.map prP) = .ok ⟨(([] : List Prm) ++ (List.replicate n (1 : Int)).map (setTh (gateP 0))), ((m + 1 : Nat) : Int), (([] : List Syn) ++ memTo m (togS (ls.map prP)) n)⟩ := by unfold memP; rw [if_pos hwmn, if_neg (by rw [List.length_map]; omega), h9, if_neg (by decide)]; simp only [List.nil_append, List.map_replicate, Int.toNat_natCast]; rfl
            rw [hP]
            exact ⟨(a19, c20), (qa, qc), by rw [hj, List.take_of_length_le (show (ls.map prP).length ≤ k from (by rw [List.length_map]; omega))]; rfl, (((((hs'.pull (.there (.there .here))).pull (.there (.there .here))).pull (.there (.there .here))).drop.pull (.there (.there .here))).drop.pull (.there (.there .here))).drop⟩
    · refine Ops.cp en_57 rfl (fun w hs => dF (in_c _ _ _ w) h3) ?_
      refine Ops.q (q_not rfl) ?_
      refine Ops.q (q_pickF rfl rfl) ?_
      refine Ops.q (q_asg rfl) ?_
      refine Ops.to rfl ?_
      refine Cd.cond_t rfl ?_
      refine Cd.seq ?_
      refine Cd.region ?_
      refine Ops.q (q_bld [.slice none 0 0, .int .i64 0, .slice none 0 0] pls_32 zc_32 rfl rfl) ?_
      refine Ops.stB [.slice none 0 0, .int .i64 0, .slice none 0 0] [.slice none 0 0, .int .i64 0, .slice none 0 0] sz_32 rfl rfl rfl (one rfl) .here rfl rfl ?_
      refine Ops.q (q_asg rfl) ?_
      refine Ops.to rfl ?_
      refine Cd.rt (fn := Try.f28) [.agg [.slice none 0 0, .int .i64 0, .slice none 0 0].toArray, .int .i64 3] (by with_reducible repeat (first | exact rq_here | apply rq_then | apply rq_block)) rfl ⟨⟨_, _, rfl, fun _ hs => run_loadN isA_32 sz_32 (fun o u hu => Sat.atB .here (by rw [Nat.zero_add]; exact hu) hs)⟩, rfl, trivial⟩ ?_
      intro w' hs'
      rw [show memP mi ni (ls.map prP) = .error 3 by unfold memP; rw [if_neg (fun h => by first | exact h3 h.1 | exact h3 h.2)]]
      exact ⟨rfl, hs'.none⟩
  · refine Ops.cp en_57 rfl (fun w hs => dF (in_c _ _ _ w) h2) ?_
    refine Ops.q (q_not rfl) ?_
    refine Ops.q (q_mv rfl) ?_
    refine Ops.sk ?_
    refine Ops.sk ?_
    refine Ops.sk ?_
    refine Ops.q (q_pickT rfl rfl) ?_
    refine Ops.q (q_asg rfl) ?_
    refine Ops.to rfl ?_
    refine Cd.cond_t rfl ?_
    refine Cd.seq ?_
    refine Cd.region ?_
    refine Ops.q (q_bld [.slice none 0 0, .int .i64 0, .slice none 0 0] pls_32 zc_32 rfl rfl) ?_
    refine Ops.stB [.slice none 0 0, .int .i64 0, .slice none 0 0] [.slice none 0 0, .int .i64 0, .slice none 0 0] sz_32 rfl rfl rfl (one rfl) .here rfl rfl ?_
    refine Ops.q (q_asg rfl) ?_
    refine Ops.to rfl ?_
    refine Cd.rt (fn := Try.f28) [.agg [.slice none 0 0, .int .i64 0, .slice none 0 0].toArray, .int .i64 3] (by with_reducible repeat (first | exact rq_here | apply rq_then | apply rq_block)) rfl ⟨⟨_, _, rfl, fun _ hs => run_loadN isA_32 sz_32 (fun o u hu => Sat.atB .here (by rw [Nat.zero_add]; exact hu) hs)⟩, rfl, trivial⟩ ?_
    intro w' hs'
    rw [show memP mi ni (ls.map prP) = .error 3 by unfold memP; rw [if_neg (fun h => by first | exact h2 h.1 | exact h2 h.2)]]
    exact ⟨rfl, hs'.none⟩
end Go.Proofs.Ytilcdghliigngaa
namespace Go.Proofs.Ytilcdghliigngaa
open Go.RowKit Go.Proofs.YtilcdghliigngaaGl Go.Proofs.YtilcdghliigngaaPm
set_option linter.unusedVariables false
set_option linter.unusedSimpArgs false
theorem rdGrow {w0 w : World} {φ φ' : World → Prop} {a : Option Addr} {c : Nat} {E : TypeId} {sz n : Nat} {cs : List Value} {A : List Atom} (h : Sat w0 w (rd φ :: row a c E sz n cs :: A)) (hf : ∀ w, φ w → Ro w a cs → φ' w) : Sat w0 w (rd φ' :: A) := by
  have h1 : Sat w0 w (bun [rd φ, row a c E sz n cs] :: A) := Sat.bundle (B := [rd φ, row a c E sz n cs]) (A := A) h
  exact h1.freeze (fun w S hS => by
    obtain ⟨S1, U1, ⟨hφ, _, _⟩, ⟨S2, U2, ⟨hrow, _⟩, _, _, _⟩, _, _⟩ := hS
    exact hf w hφ (ro_of_own hrow))
theorem rdNew {w0 w : World} {φ : World → Prop} {A : List Atom} (h : Sat w0 w A) (hf : ∀ w, φ w) : Sat w0 w (rd φ :: A) := by
  have h1 : Sat w0 w (bun [] :: A) := Sat.bundle (B := []) (A := A) h
  exact h1.freeze (fun w _ _ => hf w)
abbrev nlR (lz : List NL) : World → Prop := fun w => ∀ l ∈ lz, RoL w l.1.1 eInt l.2
theorem nlR_grow {lz : List NL} {a : Option Addr} {c : Nat} {xr : List Int} (w : World) (h : nlR lz w) (h2 : Ro w a (xr.flatMap eInt)) : nlR (lz ++ [((a, c), xr)]) w := by
  intro l hl
  rcases List.mem_append.1 hl with hl | hl
  · exact h l hl
  · obtain rfl := List.mem_singleton.1 hl; exact h2
abbrev AutoR (ls : List NL) := {r : (Option Addr × Nat) × List NL × (Option Addr × Nat) // r.2.1.map (fun l : NL => l.2) = ls.map (fun l : NL => l.2)}
theorem autocopy_c (na : Option Addr) (nc : Nat) (ls : List NL) (st : Int) (aa : Option Addr) (ac : Nat) (acc : List Bool) (w : World) (hL : RoLL w na ls) (hA : RoL w aa eBool acc) (hln : ls.length ≤ 1000000) (hlen : ∀ l ∈ ls, l.2.length ≤ 1000000) (hac : acc.length ≤ 1000000) : Calls Try.prog 15 [.agg [.slice na ls.length nc, .int .i64 st, .slice aa acc.length ac].toArray].toArray w fun e w' => ∃ r : AutoR ls, e = .returned (.agg [.slice r.1.1.1 r.1.2.1.length r.1.1.2, .int .i64 st, .slice r.1.2.2.1 acc.length r.1.2.2.2].toArray) ∧ Sat w w' [rd (fun w => RoLL w r.1.1.1 r.1.2.1 ∧ RoL w r.1.2.2.1 eBool acc)] := by
  refine fstart Try.func15 rfl rfl (Sat.nil w) ?_
  refine Cd.seq ?_
  refine Cd.region ?_
  refine Ops.box [.slice na ls.length nc, .int .i64 st, .slice aa acc.length ac] rfl rfl ?_
  intro b1
  refine Ops.alc [.slice none 0 0, .int .i64 0, .slice none 0 0] zc_36 ?_
  intro b2
  refine Ops.to rfl ?_
  refine Cd.seq ?_
  refine Cd.draw rfl (by kernel_rfl) (.cons (.there .here) .nil) ?_
  intro F3 St4 hP5 hF6 hR7
  refine Dr.q (i := 0) hP5 rfl (by kernel_rfl) (q_fa fo_25_1 rfl) ?_
  refine Dr.q (i := 1) hP5 rfl (by kernel_rfl) (q_ldB isA_3 rfl .here rfl) ?_
  refine Dr.q (i := 3) hP5 rfl (by kernel_rfl) (q_fa fo_25_2 rfl) ?_
  refine Dr.q (i := 4) hP5 rfl (by kernel_rfl) (q_ldB isA_23 rfl .here rfl) ?_
  refine Dr.e2 (i := 2) (j := 7) rfl rfl (by kernel_rfl) ?_ ?_
  · refine Ops.lit [] el_23 zsb_4 rfl rfl ⟨by decide, by decide⟩ rfl ?_
    intro b8
    refine Dr.back (fun _ hs => hF6 (.there .here) hs) ?_
    refine Dr.e2 (i := 5) (j := 7) rfl rfl (by kernel_rfl) ?_ ?_
    · refine Ops.app (news := (acc.flatMap eBool)) el_23 zsb_4 (by decide) rfl rfl (fun _ hs => hA.later hs.below) (fun _ hs => hs) (fun _ _ => .here) (fm_length eBool_len acc) (fm_one eBool_one acc) (by omega) (by omega) ?_
      intro a9 c10
      refine Dr.back (fun _ hs => hF6 (.there .here) hs) ?_
      refine Dr.q (i := 6) hP5 rfl (by kernel_rfl) (q_bld [.slice none 0 0, .int .i64 st, .slice a9 (0 + acc.length) c10] pls_36 zc_36 rfl rfl) ?_
      refine Dr.e (i := 7) rfl (by kernel_rfl) ?_
      refine Ops.alc [.slice none 0 0, .int .i64 0, .slice none 0 0] zc_36 ?_
      intro b11
      refine Dr.back (fun _ hs => hF6 (.there (.there .here)) hs) ?_
      refine Dr.tail 8 (by kernel_rfl) ?_
      refine Ops.sat ?_ (fun _ hs => hR7 (.there (.there .here)) hs)
      refine Ops.stB [.slice none 0 0, .int .i64 st, .slice a9 (0 + acc.length) c10] [.slice none 0 0, .int .i64 st, .slice a9 (0 + acc.length) c10] sz_36 rfl rfl rfl (one rfl) (.there .here) rfl rfl ?_
      refine Ops.to rfl ?_
      refine Cd.seq ?_
      refine Cd.seq ?_
      refine Cd.region ?_
      refine Ops.q (q_asg rfl) ?_
      refine Ops.to rfl ?_
      refine Cd.block ?_
      refine Cd.lp (σ := Nat × List NL × Option Addr × Nat) (fun s => s.1 ≤ ls.length ∧ s.2.1.map (fun l : NL => l.2) = (ls.take s.1).map (fun l : NL => l.2)) (fun s => [(1, .pointer (some ⟨b1, 0, none⟩)), (2, .pointer (some ⟨b2, 0, none⟩)), (3, .pointer (some ⟨b11, 0, none⟩)), (4, .int .i64 (s.1 : Int))]) (fun s => [blk b11 36 [.slice s.2.2.1 s.2.1.length s.2.2.2, .int .i64 st, .slice a9 acc.length c10], row s.2.2.1 s.2.2.2 26 1 s.2.1.length (s.2.1.flatMap eNL), rd (nlR s.2.1), row a9 c10 4 1 acc.length (acc.flatMap eBool), blk b1 25 [.slice na ls.length nc, .int .i64 st, .slice aa acc.length ac], blk b2 36 [.slice none 0 0, .int .i64 0, .slice none 0 0]]) (fun s => ls.length - s.1) (0, [], none, 0) ⟨Nat.zero_le _, rfl⟩ ⟨rfl, rfl, rfl, rfl, trivial⟩ (fun _ hs => by have h1 := rdNew (φ := nlR []) (Sat.nilRow (((((hs.pull (.there (.there (.there .here)))).pull (.there .here)).pull (.there (.there (.there .here)))).pull (.there (.there (.there .here))))) 26 1) (by intro w l hl; cases hl); rw [Nat.zero_add] at h1; exact (h1.pull (.there .here)).pull (.there (.there .here))) ?_
      rintro ⟨k, lz, oa, oc⟩ hI
      dsimp only at hI
      change Cd _ _ _ _ _ _ _ [(1, .pointer (some ⟨b1, 0, none⟩)), (2, .pointer (some ⟨b2, 0, none⟩)), (3, .pointer (some ⟨b11, 0, none⟩)), (4, .int .i64 (k : Int))] ([blk b11 36 [.slice oa lz.length oc, .int .i64 st, .slice a9 acc.length c10], row oa oc 26 1 lz.length (lz.flatMap eNL), rd (nlR lz), row a9 c10 4 1 acc.length (acc.flatMap eBool), blk b1 25 [.slice na ls.length nc, .int .i64 st, .slice aa acc.length ac], blk b2 36 [.slice none 0 0, .int .i64 0, .slice none 0 0]])
      have hI1 := hI.1
      have hlz : lz.length = k := by have := congrArg List.length hI.2; simp only [List.length_map, List.length_take] at this; omega
      refine Cd.seq ?_
      refine Cd.seq ?_
      refine Cd.region ?_
      refine Ops.q (q_mv rfl) ?_
      refine Ops.q (q_fa fo_25_0 rfl) ?_
      refine Ops.q (q_ldB isA_22 rfl (.there (.there (.there (.there .here)))) rfl) ?_
      refine Ops.q (q_len esz_22 rfl) ?_
      by_cases hk : (k : Int) < (ls.length : Int)
      · refine Ops.q (q_cmp rfl rfl (c_lt hk)) ?_
        obtain ⟨⟨⟨xa, xc⟩, xr⟩, hx⟩ : ∃ x, ls[k]? = some x := ⟨_, List.getElem?_eq_getElem (by omega)⟩
        have hxm := List.mem_iff_getElem?.2 ⟨k, hx⟩
        have hxe : RoL w xa eInt xr := hL.2 _ hxm
        have hxl : xr.length ≤ 1000000 := hlen _ hxm
        obtain ⟨nb, no, rfl⟩ := RoL.pos hL.1 eNL_len hx
        refine Ops.to rfl ?_
        refine Cd.cond_t rfl ?_
        refine Cd.skipTo rfl ?_
        refine Cd.seq ?_
        refine Cd.block ?_
        refine Cd.draw rfl (by kernel_rfl) (.cons .here (.cons (.there (.there (.there .here))) .nil)) ?_
        intro F12 St13 hP14 hF15 hR16
        refine Dr.q (i := 0) hP14 rfl (by kernel_rfl) (q_fa fo_36_0 rfl) ?_
        refine Dr.q (i := 1) hP14 rfl (by kernel_rfl) (q_ldB isA_22 rfl .here rfl) ?_
        refine Dr.q (i := 3) hP14 rfl (by kernel_rfl) (q_fa fo_25_0 rfl) ?_
        refine Dr.q (i := 4) hP14 rfl (by kernel_rfl) (q_ldB isA_22 rfl (.there .here) rfl) ?_
        refine Dr.q (i := 5) hP14 rfl (by kernel_rfl) (q_mv rfl) ?_
        refine Dr.q (i := 6) hP14 rfl (by kernel_rfl) (q_ix (k := k) esz_22 rfl rfl (by omega)) ?_
        refine Dr.q (i := 7) hP14 rfl (by kernel_rfl) (q_ldR (v := .slice xa xr.length xc) isA_26 rfl (hL.1.at0 eNL_len hx rfl)) ?_
        refine Dr.e (i := 2) rfl (by kernel_rfl) ?_
        refine Ops.lit [] el_26 zsb_3 rfl rfl ⟨by decide, by decide⟩ rfl ?_
        intro b17
        refine Dr.back (fun _ hs => hF15 (.there .here) hs) ?_
        refine Dr.e (i := 8) rfl (by kernel_rfl) ?_
        refine Ops.app (news := (xr.flatMap eInt)) el_26 zsb_3 (by decide) rfl rfl (fun _ hs => hxe.later hs.below) (fun _ hs => hs) (fun _ _ => .here) (fm_length eInt_len xr) (fm_one eInt_one xr) (by omega) (by omega) ?_
        intro a18 c19
        refine Dr.back (fun _ hs => hF15 (.there .here) hs) ?_
        refine Dr.e (i := 9) rfl (by kernel_rfl) ?_
        refine Ops.lit [.slice a18 (0 + xr.length) c19] el_22 zsb_26 rfl rfl ⟨by decide, by decide⟩ rfl ?_
        intro b20
        refine Dr.back (fun _ hs => hF15 (.there (.there .here)) hs) ?_
        refine Dr.e (i := 10) rfl (by kernel_rfl) ?_
        refine Ops.app (news := [.slice a18 (0 + xr.length) c19]) el_22 zsb_26 (by decide) rfl rfl (fun _ hs => hs.ownRo .here) (fun _ hs => (hs.pull .here).drop) (fun _ _ => (.there (.there .here))) rfl (one rfl) (by omega) (by omega) ?_
        intro a21 c22
        refine Dr.back (fun _ hs => hF15 (.there .here) hs) ?_
        refine Dr.tail 11 (by kernel_rfl) ?_
        refine Ops.sat ?_ (fun _ hs => hR16 (.there .here) hs)
        refine Ops.q (q_fa fo_36_0 rfl) ?_
        refine Ops.stB [.slice a21 (lz.length + 1) c22] [.slice a21 (lz.length + 1) c22, .int .i64 st, .slice a9 acc.length c10] sz_22 rfl rfl rfl (one rfl) .here rfl rfl ?_
        refine Ops.to rfl ?_
        refine Cd.region ?_
        refine Ops.q (q_mv rfl) ?_
        refine Ops.q (q_ar rfl rfl (a_inc (by omega))) ?_
        refine Ops.q (q_asg rfl) ?_
        refine Ops.rnd ((k + 1, lz ++ [((a18, c19), xr)], a21, c22)) rfl (by dsimp only; exact (⟨by omega, by rw [List.map_append, hI.2, List.take_add_one, hx, List.map_append]; rfl⟩)) (by dsimp only; omega) ⟨rfl, rfl, rfl, rfl, trivial⟩ (fun _ hs => by have h1 := (((((((hs.pull (.there (.there (.there (.there (.there (.there .here))))))).pull (.there (.there .here))).pull (.there (.there (.there (.there (.there (.there .here))))))).pull (.there (.there (.there (.there (.there .here)))))).pull (.there (.there (.there (.there .here))))).pull (.there (.there (.there (.there (.there .here)))))).pull (.there (.there (.there (.there (.there (.there .here))))))); rw [Nat.zero_add] at h1; have h2 := rdGrow h1 (fun w p q => nlR_grow (c := c19) w p q); (try dsimp only); rw [fm_app, List.length_append]; exact (h2.pull (.there (.there .here))).pull (.there (.there .here))) 
      · refine Ops.q (q_cmp rfl rfl (c_nlt (by omega))) ?_
        refine Ops.to rfl ?_
        refine Cd.cond_f rfl ?_
        refine Cd.exitTo rfl ?_
        refine Cd.seq ?_
        refine Cd.region ?_
        refine Ops.q (q_ldBN [.slice oa lz.length oc, .int .i64 st, .slice a9 acc.length c10] isA_36 sz_36 rfl .here rfl) ?_
        refine Ops.stB [.slice oa lz.length oc, .int .i64 st, .slice a9 acc.length c10] [.slice oa lz.length oc, .int .i64 st, .slice a9 acc.length c10] sz_36 rfl rfl rfl (one rfl) (.there (.there (.there (.there (.there .here))))) rfl rfl ?_
        refine Ops.to rfl ?_
        refine Cd.rt (fn := Try.f15) [.agg [.slice oa lz.length oc, .int .i64 st, .slice a9 acc.length c10].toArray] (by with_reducible repeat (first | exact rq_here | apply rq_then | apply rq_block)) rfl ⟨⟨_, _, rfl, fun _ hs => run_loadN isA_36 sz_36 (fun o u hu => Sat.atB (.there (.there (.there (.there (.there .here))))) (by rw [Nat.zero_add]; exact hu) hs)⟩, trivial⟩ ?_
        intro w' hs'
        have h1 := ((((((hs'.pull (.there (.there (.there .here)))).pull (.there (.there .here))).pull (.there (.there (.there .here)))).pull (.there (.there (.there .here)))).drop.pull (.there (.there (.there .here)))).drop.pull (.there (.there (.there .here)))).drop
        have h2 := rdGrow h1 (φ' := fun w => RoLL w oa lz) (fun w p q => ⟨q, p⟩)
        have h3 := rdGrow h2 (φ' := fun w => RoLL w oa lz ∧ RoL w a9 eBool acc) (fun w p q => ⟨p, q⟩)
        exact ⟨⟨((oa, oc), lz, (a9, c10)), by rw [hI.2, List.take_of_length_le (show ls.length ≤ k by omega)]⟩, rfl, h3⟩
    · refine Ops.alc [.slice none 0 0, .int .i64 0, .slice none 0 0] zc_36 ?_
      intro b23
      refine Dr.back (fun _ hs => hF6 (.there (.there .here)) hs) ?_
      refine Dr.e (i := 5) rfl (by kernel_rfl) ?_
      refine Ops.app (news := (acc.flatMap eBool)) el_23 zsb_4 (by decide) rfl rfl (fun _ hs => hA.later hs.below) (fun _ hs => hs) (fun _ _ => (.there .here)) (fm_length eBool_len acc) (fm_one eBool_one acc) (by omega) (by omega) ?_
      intro a24 c25
      refine Dr.back (fun _ hs => hF6 (.there (.there .here)) hs) ?_
      refine Dr.q (i := 6) hP5 rfl (by kernel_rfl) (q_bld [.slice none 0 0, .int .i64 st, .slice a24 (0 + acc.length) c25] pls_36 zc_36 rfl rfl) ?_
      refine Dr.tail 8 (by kernel_rfl) ?_
      refine Ops.sat ?_ (fun _ hs => hR7 (.there (.there .here)) hs)
      refine Ops.stB [.slice none 0 0, .int .i64 st, .slice a24 (0 + acc.length) c25] [.slice none 0 0, .int .i64 st, .slice a24 (0 + acc.length) c25] sz_36 rfl rfl rfl (one rfl) (.there .here) rfl rfl ?_
      refine Ops.to rfl ?_
      refine Cd.seq ?_
      refine Cd.seq ?_
      refine Cd.region ?_
      refine Ops.q (q_asg rfl) ?_
      refine Ops.to rfl ?_
      refine Cd.block ?_
      refine Cd.lp (σ := Nat × List NL × Option Addr × Nat) (fun s => s.1 ≤ ls.length ∧ s.2.1.map (fun l : NL => l.2) = (ls.take s.1).map (fun l : NL => l.2)) (fun s => [(1, .pointer (some ⟨b1, 0, none⟩)), (2, .pointer (some ⟨b2, 0, none⟩)), (3, .pointer (some ⟨b23, 0, none⟩)), (4, .int .i64 (s.1 : Int))]) (fun s => [blk b23 36 [.slice s.2.2.1 s.2.1.length s.2.2.2, .int .i64 st, .slice a24 acc.length c25], row s.2.2.1 s.2.2.2 26 1 s.2.1.length (s.2.1.flatMap eNL), rd (nlR s.2.1), row a24 c25 4 1 acc.length (acc.flatMap eBool), blk b1 25 [.slice na ls.length nc, .int .i64 st, .slice aa acc.length ac], blk b2 36 [.slice none 0 0, .int .i64 0, .slice none 0 0]]) (fun s => ls.length - s.1) (0, [], none, 0) ⟨Nat.zero_le _, rfl⟩ ⟨rfl, rfl, rfl, rfl, trivial⟩ (fun _ hs => by have h1 := rdNew (φ := nlR []) (Sat.nilRow (((((hs.pull (.there (.there (.there .here)))).pull (.there .here)).pull (.there (.there (.there .here)))).pull (.there (.there (.there .here))))) 26 1) (by intro w l hl; cases hl); rw [Nat.zero_add] at h1; exact (h1.pull (.there .here)).pull (.there (.there .here))) ?_
      rintro ⟨k, lz, oa, oc⟩ hI
      dsimp only at hI
      change Cd _ _ _ _ _ _ _ [(1, .pointer (some ⟨b1, 0, none⟩)), (2, .pointer (some ⟨b2, 0, none⟩)), (3, .pointer (some ⟨b23, 0, none⟩)), (4, .int .i64 (k : Int))] ([blk b23 36 [.slice oa lz.length oc, .int .i64 st, .slice a24 acc.length c25], row oa oc 26 1 lz.length (lz.flatMap eNL), rd (nlR lz), row a24 c25 4 1 acc.length (acc.flatMap eBool), blk b1 25 [.slice na ls.length nc, .int .i64 st, .slice aa acc.length ac], blk b2 36 [.slice none 0 0, .int .i64 0, .slice none 0 0]])
      have hI1 := hI.1
      have hlz : lz.length = k := by have := congrArg List.length hI.2; simp only [List.length_map, List.length_take] at this; omega
      refine Cd.seq ?_
      refine Cd.seq ?_
      refine Cd.region ?_
      refine Ops.q (q_mv rfl) ?_
      refine Ops.q (q_fa fo_25_0 rfl) ?_
      refine Ops.q (q_ldB isA_22 rfl (.there (.there (.there (.there .here)))) rfl) ?_
      refine Ops.q (q_len esz_22 rfl) ?_
      by_cases hk : (k : Int) < (ls.length : Int)
      · refine Ops.q (q_cmp rfl rfl (c_lt hk)) ?_
        obtain ⟨⟨⟨xa, xc⟩, xr⟩, hx⟩ : ∃ x, ls[k]? = some x := ⟨_, List.getElem?_eq_getElem (by omega)⟩
        have hxm := List.mem_iff_getElem?.2 ⟨k, hx⟩
        have hxe : RoL w xa eInt xr := hL.2 _ hxm
        have hxl : xr.length ≤ 1000000 := hlen _ hxm
        obtain ⟨nb, no, rfl⟩ := RoL.pos hL.1 eNL_len hx
        refine Ops.to rfl ?_
        refine Cd.cond_t rfl ?_
        refine Cd.skipTo rfl ?_
        refine Cd.seq ?_
        refine Cd.block ?_
        refine Cd.draw rfl (by kernel_rfl) (.cons .here (.cons (.there (.there (.there .here))) .nil)) ?_
        intro F26 St27 hP28 hF29 hR30
        refine Dr.q (i := 0) hP28 rfl (by kernel_rfl) (q_fa fo_36_0 rfl) ?_
        refine Dr.q (i := 1) hP28 rfl (by kernel_rfl) (q_ldB isA_22 rfl .here rfl) ?_
        refine Dr.q (i := 3) hP28 rfl (by kernel_rfl) (q_fa fo_25_0 rfl) ?_
        refine Dr.q (i := 4) hP28 rfl (by kernel_rfl) (q_ldB isA_22 rfl (.there .here) rfl) ?_
        refine Dr.q (i := 5) hP28 rfl (by kernel_rfl) (q_mv rfl) ?_
        refine Dr.q (i := 6) hP28 rfl (by kernel_rfl) (q_ix (k := k) esz_22 rfl rfl (by omega)) ?_
        refine Dr.q (i := 7) hP28 rfl (by kernel_rfl) (q_ldR (v := .slice xa xr.length xc) isA_26 rfl (hL.1.at0 eNL_len hx rfl)) ?_
        refine Dr.e (i := 2) rfl (by kernel_rfl) ?_
        refine Ops.lit [] el_26 zsb_3 rfl rfl ⟨by decide, by decide⟩ rfl ?_
        intro b31
        refine Dr.back (fun _ hs => hF29 (.there .here) hs) ?_
        refine Dr.e (i := 8) rfl (by kernel_rfl) ?_
        refine Ops.app (news := (xr.flatMap eInt)) el_26 zsb_3 (by decide) rfl rfl (fun _ hs => hxe.later hs.below) (fun _ hs => hs) (fun _ _ => .here) (fm_length eInt_len xr) (fm_one eInt_one xr) (by omega) (by omega) ?_
        intro a32 c33
        refine Dr.back (fun _ hs => hF29 (.there .here) hs) ?_
        refine Dr.e (i := 9) rfl (by kernel_rfl) ?_
        refine Ops.lit [.slice a32 (0 + xr.length) c33] el_22 zsb_26 rfl rfl ⟨by decide, by decide⟩ rfl ?_
        intro b34
        refine Dr.back (fun _ hs => hF29 (.there (.there .here)) hs) ?_
        refine Dr.e (i := 10) rfl (by kernel_rfl) ?_
        refine Ops.app (news := [.slice a32 (0 + xr.length) c33]) el_22 zsb_26 (by decide) rfl rfl (fun _ hs => hs.ownRo .here) (fun _ hs => (hs.pull .here).drop) (fun _ _ => (.there (.there .here))) rfl (one rfl) (by omega) (by omega) ?_
        intro a35 c36
        refine Dr.back (fun _ hs => hF29 (.there .here) hs) ?_
        refine Dr.tail 11 (by kernel_rfl) ?_
        refine Ops.sat ?_ (fun _ hs => hR30 (.there .here) hs)
        refine Ops.q (q_fa fo_36_0 rfl) ?_
        refine Ops.stB [.slice a35 (lz.length + 1) c36] [.slice a35 (lz.length + 1) c36, .int .i64 st, .slice a24 acc.length c25] sz_22 rfl rfl rfl (one rfl) .here rfl rfl ?_
        refine Ops.to rfl ?_
        refine Cd.region ?_
        refine Ops.q (q_mv rfl) ?_
        refine Ops.q (q_ar rfl rfl (a_inc (by omega))) ?_
        refine Ops.q (q_asg rfl) ?_
        refine Ops.rnd ((k + 1, lz ++ [((a32, c33), xr)], a35, c36)) rfl (by dsimp only; exact (⟨by omega, by rw [List.map_append, hI.2, List.take_add_one, hx, List.map_append]; rfl⟩)) (by dsimp only; omega) ⟨rfl, rfl, rfl, rfl, trivial⟩ (fun _ hs => by have h1 := (((((((hs.pull (.there (.there (.there (.there (.there (.there .here))))))).pull (.there (.there .here))).pull (.there (.there (.there (.there (.there (.there .here))))))).pull (.there (.there (.there (.there (.there .here)))))).pull (.there (.there (.there (.there .here))))).pull (.there (.there (.there (.there (.there .here)))))).pull (.there (.there (.there (.there (.there (.there .here))))))); rw [Nat.zero_add] at h1; have h2 := rdGrow h1 (fun w p q => nlR_grow (c := c33) w p q); (try dsimp only); rw [fm_app, List.length_append]; exact (h2.pull (.there (.there .here))).pull (.there (.there .here))) 
      · refine Ops.q (q_cmp rfl rfl (c_nlt (by omega))) ?_
        refine Ops.to rfl ?_
        refine Cd.cond_f rfl ?_
        refine Cd.exitTo rfl ?_
        refine Cd.seq ?_
        refine Cd.region ?_
        refine Ops.q (q_ldBN [.slice oa lz.length oc, .int .i64 st, .slice a24 acc.length c25] isA_36 sz_36 rfl .here rfl) ?_
        refine Ops.stB [.slice oa lz.length oc, .int .i64 st, .slice a24 acc.length c25] [.slice oa lz.length oc, .int .i64 st, .slice a24 acc.length c25] sz_36 rfl rfl rfl (one rfl) (.there (.there (.there (.there (.there .here))))) rfl rfl ?_
        refine Ops.to rfl ?_
        refine Cd.rt (fn := Try.f15) [.agg [.slice oa lz.length oc, .int .i64 st, .slice a24 acc.length c25].toArray] (by with_reducible repeat (first | exact rq_here | apply rq_then | apply rq_block)) rfl ⟨⟨_, _, rfl, fun _ hs => run_loadN isA_36 sz_36 (fun o u hu => Sat.atB (.there (.there (.there (.there (.there .here))))) (by rw [Nat.zero_add]; exact hu) hs)⟩, trivial⟩ ?_
        intro w' hs'
        have h1 := ((((((hs'.pull (.there (.there (.there .here)))).pull (.there (.there .here))).pull (.there (.there (.there .here)))).pull (.there (.there (.there .here)))).drop.pull (.there (.there (.there .here)))).drop.pull (.there (.there (.there .here)))).drop
        have h2 := rdGrow h1 (φ' := fun w => RoLL w oa lz) (fun w p q => ⟨q, p⟩)
        have h3 := rdGrow h2 (φ' := fun w => RoLL w oa lz ∧ RoL w a24 eBool acc) (fun w p q => ⟨p, q⟩)
        exact ⟨⟨((oa, oc), lz, (a24, c25)), by rw [hI.2, List.take_of_length_le (show ls.length ≤ k by omega)]⟩, rfl, h3⟩
  · refine Ops.alc [.slice none 0 0, .int .i64 0, .slice none 0 0] zc_36 ?_
    intro b37
    refine Dr.back (fun _ hs => hF6 (.there .here) hs) ?_
    refine Dr.e (i := 2) rfl (by kernel_rfl) ?_
    refine Ops.lit [] el_23 zsb_4 rfl rfl ⟨by decide, by decide⟩ rfl ?_
    intro b38
    refine Dr.back (fun _ hs => hF6 (.there (.there .here)) hs) ?_
    refine Dr.e (i := 5) rfl (by kernel_rfl) ?_
    refine Ops.app (news := (acc.flatMap eBool)) el_23 zsb_4 (by decide) rfl rfl (fun _ hs => hA.later hs.below) (fun _ hs => hs) (fun _ _ => .here) (fm_length eBool_len acc) (fm_one eBool_one acc) (by omega) (by omega) ?_
    intro a39 c40
    refine Dr.back (fun _ hs => hF6 (.there (.there .here)) hs) ?_
    refine Dr.q (i := 6) hP5 rfl (by kernel_rfl) (q_bld [.slice none 0 0, .int .i64 st, .slice a39 (0 + acc.length) c40] pls_36 zc_36 rfl rfl) ?_
    refine Dr.tail 8 (by kernel_rfl) ?_
    refine Ops.sat ?_ (fun _ hs => hR7 (.there (.there .here)) hs)
    refine Ops.stB [.slice none 0 0, .int .i64 st, .slice a39 (0 + acc.length) c40] [.slice none 0 0, .int .i64 st, .slice a39 (0 + acc.length) c40] sz_36 rfl rfl rfl (one rfl) (.there (.there .here)) rfl rfl ?_
    refine Ops.to rfl ?_
    refine Cd.seq ?_
    refine Cd.seq ?_
    refine Cd.region ?_
    refine Ops.q (q_asg rfl) ?_
    refine Ops.to rfl ?_
    refine Cd.block ?_
    refine Cd.lp (σ := Nat × List NL × Option Addr × Nat) (fun s => s.1 ≤ ls.length ∧ s.2.1.map (fun l : NL => l.2) = (ls.take s.1).map (fun l : NL => l.2)) (fun s => [(1, .pointer (some ⟨b1, 0, none⟩)), (2, .pointer (some ⟨b2, 0, none⟩)), (3, .pointer (some ⟨b37, 0, none⟩)), (4, .int .i64 (s.1 : Int))]) (fun s => [blk b37 36 [.slice s.2.2.1 s.2.1.length s.2.2.2, .int .i64 st, .slice a39 acc.length c40], row s.2.2.1 s.2.2.2 26 1 s.2.1.length (s.2.1.flatMap eNL), rd (nlR s.2.1), row a39 c40 4 1 acc.length (acc.flatMap eBool), blk b1 25 [.slice na ls.length nc, .int .i64 st, .slice aa acc.length ac], blk b2 36 [.slice none 0 0, .int .i64 0, .slice none 0 0]]) (fun s => ls.length - s.1) (0, [], none, 0) ⟨Nat.zero_le _, rfl⟩ ⟨rfl, rfl, rfl, rfl, trivial⟩ (fun _ hs => by have h1 := rdNew (φ := nlR []) (Sat.nilRow (((((hs.pull (.there (.there (.there .here)))).pull (.there .here)).pull (.there (.there .here))).pull (.there (.there (.there .here))))) 26 1) (by intro w l hl; cases hl); rw [Nat.zero_add] at h1; exact (h1.pull (.there .here)).pull (.there (.there .here))) ?_
    rintro ⟨k, lz, oa, oc⟩ hI
    dsimp only at hI
    change Cd _ _ _ _ _ _ _ [(1, .pointer (some ⟨b1, 0, none⟩)), (2, .pointer (some ⟨b2, 0, none⟩)), (3, .pointer (some ⟨b37, 0, none⟩)), (4, .int .i64 (k : Int))] ([blk b37 36 [.slice oa lz.length oc, .int .i64 st, .slice a39 acc.length c40], row oa oc 26 1 lz.length (lz.flatMap eNL), rd (nlR lz), row a39 c40 4 1 acc.length (acc.flatMap eBool), blk b1 25 [.slice na ls.length nc, .int .i64 st, .slice aa acc.length ac], blk b2 36 [.slice none 0 0, .int .i64 0, .slice none 0 0]])
    have hI1 := hI.1
    have hlz : lz.length = k := by have := congrArg List.length hI.2; simp only [List.length_map, List.length_take] at this; omega
    refine Cd.seq ?_
    refine Cd.seq ?_
    refine Cd.region ?_
    refine Ops.q (q_mv rfl) ?_
    refine Ops.q (q_fa fo_25_0 rfl) ?_
    refine Ops.q (q_ldB isA_22 rfl (.there (.there (.there (.there .here)))) rfl) ?_
    refine Ops.q (q_len esz_22 rfl) ?_
    by_cases hk : (k : Int) < (ls.length : Int)
    · refine Ops.q (q_cmp rfl rfl (c_lt hk)) ?_
      obtain ⟨⟨⟨xa, xc⟩, xr⟩, hx⟩ : ∃ x, ls[k]? = some x := ⟨_, List.getElem?_eq_getElem (by omega)⟩
      have hxm := List.mem_iff_getElem?.2 ⟨k, hx⟩
      have hxe : RoL w xa eInt xr := hL.2 _ hxm
      have hxl : xr.length ≤ 1000000 := hlen _ hxm
      obtain ⟨nb, no, rfl⟩ := RoL.pos hL.1 eNL_len hx
      refine Ops.to rfl ?_
      refine Cd.cond_t rfl ?_
      refine Cd.skipTo rfl ?_
      refine Cd.seq ?_
      refine Cd.block ?_
      refine Cd.draw rfl (by kernel_rfl) (.cons .here (.cons (.there (.there (.there .here))) .nil)) ?_
      intro F41 St42 hP43 hF44 hR45
      refine Dr.q (i := 0) hP43 rfl (by kernel_rfl) (q_fa fo_36_0 rfl) ?_
      refine Dr.q (i := 1) hP43 rfl (by kernel_rfl) (q_ldB isA_22 rfl .here rfl) ?_
      refine Dr.q (i := 3) hP43 rfl (by kernel_rfl) (q_fa fo_25_0 rfl) ?_
      refine Dr.q (i := 4) hP43 rfl (by kernel_rfl) (q_ldB isA_22 rfl (.there .here) rfl) ?_
      refine Dr.q (i := 5) hP43 rfl (by kernel_rfl) (q_mv rfl) ?_
      refine Dr.q (i := 6) hP43 rfl (by kernel_rfl) (q_ix (k := k) esz_22 rfl rfl (by omega)) ?_
      refine Dr.q (i := 7) hP43 rfl (by kernel_rfl) (q_ldR (v := .slice xa xr.length xc) isA_26 rfl (hL.1.at0 eNL_len hx rfl)) ?_
      refine Dr.e (i := 2) rfl (by kernel_rfl) ?_
      refine Ops.lit [] el_26 zsb_3 rfl rfl ⟨by decide, by decide⟩ rfl ?_
      intro b46
      refine Dr.back (fun _ hs => hF44 (.there .here) hs) ?_
      refine Dr.e (i := 8) rfl (by kernel_rfl) ?_
      refine Ops.app (news := (xr.flatMap eInt)) el_26 zsb_3 (by decide) rfl rfl (fun _ hs => hxe.later hs.below) (fun _ hs => hs) (fun _ _ => .here) (fm_length eInt_len xr) (fm_one eInt_one xr) (by omega) (by omega) ?_
      intro a47 c48
      refine Dr.back (fun _ hs => hF44 (.there .here) hs) ?_
      refine Dr.e (i := 9) rfl (by kernel_rfl) ?_
      refine Ops.lit [.slice a47 (0 + xr.length) c48] el_22 zsb_26 rfl rfl ⟨by decide, by decide⟩ rfl ?_
      intro b49
      refine Dr.back (fun _ hs => hF44 (.there (.there .here)) hs) ?_
      refine Dr.e (i := 10) rfl (by kernel_rfl) ?_
      refine Ops.app (news := [.slice a47 (0 + xr.length) c48]) el_22 zsb_26 (by decide) rfl rfl (fun _ hs => hs.ownRo .here) (fun _ hs => (hs.pull .here).drop) (fun _ _ => (.there (.there .here))) rfl (one rfl) (by omega) (by omega) ?_
      intro a50 c51
      refine Dr.back (fun _ hs => hF44 (.there .here) hs) ?_
      refine Dr.tail 11 (by kernel_rfl) ?_
      refine Ops.sat ?_ (fun _ hs => hR45 (.there .here) hs)
      refine Ops.q (q_fa fo_36_0 rfl) ?_
      refine Ops.stB [.slice a50 (lz.length + 1) c51] [.slice a50 (lz.length + 1) c51, .int .i64 st, .slice a39 acc.length c40] sz_22 rfl rfl rfl (one rfl) .here rfl rfl ?_
      refine Ops.to rfl ?_
      refine Cd.region ?_
      refine Ops.q (q_mv rfl) ?_
      refine Ops.q (q_ar rfl rfl (a_inc (by omega))) ?_
      refine Ops.q (q_asg rfl) ?_
      refine Ops.rnd ((k + 1, lz ++ [((a47, c48), xr)], a50, c51)) rfl (by dsimp only; exact (⟨by omega, by rw [List.map_append, hI.2, List.take_add_one, hx, List.map_append]; rfl⟩)) (by dsimp only; omega) ⟨rfl, rfl, rfl, rfl, trivial⟩ (fun _ hs => by have h1 := (((((((hs.pull (.there (.there (.there (.there (.there (.there .here))))))).pull (.there (.there .here))).pull (.there (.there (.there (.there (.there (.there .here))))))).pull (.there (.there (.there (.there (.there .here)))))).pull (.there (.there (.there (.there .here))))).pull (.there (.there (.there (.there (.there .here)))))).pull (.there (.there (.there (.there (.there (.there .here))))))); rw [Nat.zero_add] at h1; have h2 := rdGrow h1 (fun w p q => nlR_grow (c := c48) w p q); (try dsimp only); rw [fm_app, List.length_append]; exact (h2.pull (.there (.there .here))).pull (.there (.there .here))) 
    · refine Ops.q (q_cmp rfl rfl (c_nlt (by omega))) ?_
      refine Ops.to rfl ?_
      refine Cd.cond_f rfl ?_
      refine Cd.exitTo rfl ?_
      refine Cd.seq ?_
      refine Cd.region ?_
      refine Ops.q (q_ldBN [.slice oa lz.length oc, .int .i64 st, .slice a39 acc.length c40] isA_36 sz_36 rfl .here rfl) ?_
      refine Ops.stB [.slice oa lz.length oc, .int .i64 st, .slice a39 acc.length c40] [.slice oa lz.length oc, .int .i64 st, .slice a39 acc.length c40] sz_36 rfl rfl rfl (one rfl) (.there (.there (.there (.there (.there .here))))) rfl rfl ?_
      refine Ops.to rfl ?_
      refine Cd.rt (fn := Try.f15) [.agg [.slice oa lz.length oc, .int .i64 st, .slice a39 acc.length c40].toArray] (by with_reducible repeat (first | exact rq_here | apply rq_then | apply rq_block)) rfl ⟨⟨_, _, rfl, fun _ hs => run_loadN isA_36 sz_36 (fun o u hu => Sat.atB (.there (.there (.there (.there (.there .here))))) (by rw [Nat.zero_add]; exact hu) hs)⟩, trivial⟩ ?_
      intro w' hs'
      have h1 := ((((((hs'.pull (.there (.there (.there .here)))).pull (.there (.there .here))).pull (.there (.there (.there .here)))).pull (.there (.there (.there .here)))).drop.pull (.there (.there (.there .here)))).drop.pull (.there (.there (.there .here)))).drop
      have h2 := rdGrow h1 (φ' := fun w => RoLL w oa lz) (fun w p q => ⟨q, p⟩)
      have h3 := rdGrow h2 (φ' := fun w => RoLL w oa lz ∧ RoL w a39 eBool acc) (fun w p q => ⟨p, q⟩)
      exact ⟨⟨((oa, oc), lz, (a39, c40)), by rw [hI.2, List.take_of_length_le (show ls.length ≤ k by omega)]⟩, rfl, h3⟩
end Go.Proofs.Ytilcdghliigngaa
namespace Go.Proofs.Ytilcdghliigngaa
open Go.RowKit Go.Proofs.YtilcdghliigngaaGl Go.Proofs.YtilcdghliigngaaPm
set_option linter.unusedVariables false
set_option linter.unusedSimpArgs false
theorem rowle_any {w0 w : World} {A R : List Atom} {a : Option Addr} {cap sz m : Nat} {E : TypeId} {cs : List Value} (h : Sat w0 w A) (hp : Pull A (row a cap E sz m cs) R) : m ≤ cap := by
  obtain ⟨hlen, hown⟩ := h.own hp
  rcases hown with ⟨h0, h00⟩ | ⟨b', cap', cur, hv0, _, hh, h2, h3, h4, h5⟩
  · omega
  · cases hv0; exact h2
def exN (r : Except Int NetP) : NetP := match r with | .ok N => N | .error _ => ⟨[], 0, []⟩
theorem retR_ok {k : FuncId} {vs : Array Value} {r : Except Int NetP} {w : World} {N : NetP} (h : Calls Try.prog k vs w (RetR r w)) (hr : r = .ok N) :
    Calls Try.prog k vs w fun e w' => ∃ x : (Option Addr × Nat) × (Option Addr × Nat), e = .returned (.tuple #[.agg #[.slice x.1.1 N.ns.length x.1.2, .int .i64 N.inp, .slice x.2.1 N.ss.length x.2.2], .int .i64 0]) ∧ Sat w w' [row x.1.1 x.1.2 116 8 N.ns.length (N.ns.flatMap ePrm), row x.2.1 x.2.2 126 4 N.ss.length (N.ss.flatMap eSyn)] := by
  subst hr
  exact h.mono fun e w' h => by obtain ⟨p, q, h1, h2⟩ := h; exact ⟨(p, q), h1, h2⟩
theorem retL_ok {k : FuncId} {vs : Array Value} {r : Except Int (List Int)} {w : World} {xs : List Int} (h : Calls Try.prog k vs w (RetL r w)) (hr : r = .ok xs) :
    Calls Try.prog k vs w fun e w' => ∃ p : Option Addr × Nat, e = .returned (.tuple #[.slice p.1 xs.length p.2, .int .i64 0]) ∧ Sat w w' [row p.1 p.2 3 1 xs.length (xs.flatMap eInt)] := by
  subst hr; exact h
theorem retE_ok {k : FuncId} {vs : Array Value} {r : Except Int (List Evt)} {w : World} {xs : List Evt} (h : Calls Try.prog k vs w (RetE r w)) (hr : r = .ok xs) :
    Calls Try.prog k vs w fun e w' => ∃ p : Option Addr × Nat, e = .returned (.tuple #[.slice p.1 xs.length p.2, .int .i64 0]) ∧ Sat w w' [row p.1 p.2 88 2 xs.length (xs.flatMap eEvt)] := by
  subst hr; exact h
theorem runW {k : FuncId} {vs : Array Value} {w : World} {out xs : List Evt} (h : Calls Try.prog k vs w fun e w' => ∃ p : Option Addr × Nat, e = .returned (.slice p.1 out.length p.2) ∧ Sat w w' [row p.1 p.2 88 2 out.length (out.flatMap eEvt)]) (hr : out = xs) :
    Calls Try.prog k vs w fun e w' => ∃ p : Option Addr × Nat, e = .returned (.slice p.1 xs.length p.2) ∧ Sat w w' [row p.1 p.2 88 2 xs.length (xs.flatMap eEvt)] := by
  subst hr; exact h
abbrev wE : List Edg := [⟨0, 1, 5⟩, ⟨0, 2, 2⟩, ⟨2, 1, 2⟩]
def wNp : NetP := exN (pathsP 3 wE 0)
def wNs : NetP := exN (sortP 3)
abbrev wA : List (List Int) := [[0, 1], [1, 0]]
def wNm : NetP := exN (machineP wA 0 [false, true])
abbrev wC : List (List Int × Int) := [([], 0), ([0], 1), ([0, 1], -1), ([2], 2)]
def wNh : NetP := exN (hornP 3 wC)
def wNr : NetP := exN (memP 2 2 [([0], [1])])
def wNc : NetP := exN (countP 1 [⟨0, 5, 1⟩] 2)
def wNq : NetP := exN (patP 2 [⟨0, 0⟩, ⟨1, 3⟩] 0)
theorem kNp : pathsP 3 wE 0 = .ok wNp := by kernel_rfl
theorem kNs : sortP 3 = .ok wNs := by kernel_rfl
theorem kNm : machineP wA 0 [false, true] = .ok wNm := by kernel_rfl
theorem kNh : hornP 3 wC = .ok wNh := by kernel_rfl
theorem kNr : memP 2 2 [([0], [1])] = .ok wNr := by kernel_rfl
theorem kNc : countP 1 [⟨0, 5, 1⟩] 2 = .ok wNc := by kernel_rfl
theorem kNq : patP 2 [⟨0, 0⟩, ⟨1, 3⟩] 0 = .ok wNq := by kernel_rfl
theorem kLp : lawRun wNp 0 48 [⟨0, 0⟩] = [⟨1, 0⟩, ⟨3, 2⟩, ⟨5, 1⟩] := by kernel_rfl
theorem kLs : lawRun wNs 0 9 [⟨2, 1⟩, ⟨5, 0⟩, ⟨5, 2⟩] = [⟨3, 0⟩, ⟨6, 1⟩, ⟨6, 2⟩] := by kernel_rfl
theorem kDp : distP 3 [⟨1, 0⟩, ⟨3, 2⟩, ⟨5, 1⟩] = .ok [0, 4, 2] := by kernel_rfl
theorem kBp : befP 3 wE [0, 4, 2] = .ok [-1, 2, 0] := by kernel_rfl
theorem kWm : wordP wA 0 2 [1, 1, 0] = .ok [⟨0, 1⟩, ⟨0, 2⟩, ⟨3, 1⟩, ⟨6, 0⟩] := by kernel_rfl
theorem kLm : lawRun wNm 0 12 [⟨0, 1⟩, ⟨0, 2⟩, ⟨3, 1⟩, ⟨6, 0⟩] = [⟨1, 0⟩, ⟨2, 3⟩, ⟨4, 1⟩, ⟨5, 5⟩, ⟨5, 6⟩, ⟨7, 0⟩, ⟨8, 2⟩, ⟨10, 0⟩] := by kernel_rfl
theorem kSm : statesP wA 0 2 [⟨1, 0⟩, ⟨2, 3⟩, ⟨4, 1⟩, ⟨5, 5⟩, ⟨5, 6⟩, ⟨7, 0⟩, ⟨8, 2⟩, ⟨10, 0⟩] = .ok [0, 1, 0, 0] := by kernel_rfl
theorem kLh : lawRun wNh 0 9 [⟨0, 0⟩] = [⟨1, 4⟩, ⟨2, 0⟩, ⟨3, 5⟩, ⟨4, 1⟩, ⟨5, 6⟩, ⟨6, 3⟩] := by kernel_rfl
theorem kLr : lawRun wNr 0 9 [⟨4, 0⟩, ⟨4, 2⟩] = [⟨5, 1⟩] := by kernel_rfl
theorem kLc : lawRun wNc 0 9 [⟨0, 0⟩] = [⟨1, 0⟩, ⟨2, 0⟩] := by kernel_rfl
theorem kLq : lawRun wNq 0 20 [⟨1, 0⟩, ⟨4, 1⟩] = [⟨17, 0⟩] := by kernel_rfl
theorem works_c (w : World) : Calls Try.prog 13 [].toArray w fun e w' => e = .returned (.bool true) ∧ Sat w w' [] := by
  refine fstart Try.func13 rfl rfl (Sat.nil w) ?_
  refine Cd.seq ?_
  refine Cd.region ?_
  refine Ops.q (q_asg rfl) ?_
  refine Ops.to rfl ?_
  refine Cd.seq ?_
  refine Cd.region ?_
  refine Ops.q (q_bld [.int .i64 0, .int .i64 1, .int .i64 5] pls_82 zc_82 rfl rfl) ?_
  refine Ops.q (q_bld [.int .i64 0, .int .i64 2, .int .i64 2] pls_82 zc_82 rfl rfl) ?_
  refine Ops.q (q_bld [.int .i64 2, .int .i64 1, .int .i64 2] pls_82 zc_82 rfl rfl) ?_
  refine Ops.lit [.int .i64 0, .int .i64 1, .int .i64 5, .int .i64 0, .int .i64 2, .int .i64 2, .int .i64 2, .int .i64 1, .int .i64 2] el_80 zsb_82 rfl rfl ⟨by decide, by decide⟩ rfl ?_
  intro b1
  refine Ops.q (q_asg rfl) ?_
  refine Ops.to rfl ?_
  refine Cd.seq ?_
  refine Cd.region ?_
  refine Ops.q (q_mv rfl) ?_
  refine Ops.cl (α := (Option Addr × Nat) × (Option Addr × Nat)) (v := fun x => .tuple [.agg [.slice x.1.1 wNp.ns.length x.1.2, .int .i64 wNp.inp, .slice x.2.1 wNp.ss.length x.2.2].toArray, .int .i64 0].toArray) (B := fun x => [row x.1.1 x.1.2 116 8 wNp.ns.length (wNp.ns.flatMap ePrm), row x.2.1 x.2.2 126 4 wNp.ss.length (wNp.ss.flatMap eSyn)]) en_34 rfl (fun w hs => retR_ok (paths_c 3 _ _ [⟨0, 1, 5⟩, ⟨0, 2, 2⟩, ⟨2, 1, 2⟩] 0 w (hs.ownRo .here)) kNp) ?_
  rintro ⟨⟨p2, pc3⟩, ⟨q4, qc5⟩⟩
  refine Ops.q (q_mv rfl) ?_
  refine Ops.q (q_ext rfl rfl) ?_
  refine Ops.q (q_ext rfl rfl) ?_
  refine Ops.alc [.slice none 0 0, .int .i64 0, .slice none 0 0] zc_32 ?_
  intro b6
  refine Ops.stB [.slice p2 wNp.ns.length pc3, .int .i64 wNp.inp, .slice q4 wNp.ss.length qc5] [.slice p2 wNp.ns.length pc3, .int .i64 wNp.inp, .slice q4 wNp.ss.length qc5] sz_32 rfl rfl rfl (one rfl) .here rfl rfl ?_
  refine Ops.q (q_asg rfl) ?_
  refine Ops.to rfl ?_
  refine Cd.seq ?_
  refine Cd.draw rfl (by kernel_rfl) (.cons .here .nil) ?_
  intro F7 St8 hP9 hF10 hR11
  refine Dr.q (i := 0) hP9 rfl (by kernel_rfl) (q_ldBN [.slice p2 wNp.ns.length pc3, .int .i64 wNp.inp, .slice q4 wNp.ss.length qc5] isA_32 sz_32 rfl .here rfl) ?_
  refine Dr.q (i := 1) hP9 rfl (by kernel_rfl) (q_mv rfl) ?_
  refine Dr.e (i := 2) rfl (by kernel_rfl) ?_
  refine Ops.cp en_39 rfl (fun w hs => at_c 0 0 w) ?_
  refine Dr.back (fun _ hs => hF10 .here hs) ?_
  refine Dr.e (i := 3) rfl (by kernel_rfl) ?_
  refine Ops.lit [.int .i64 0, .int .i64 0] el_27 zsb_88 rfl rfl ⟨by decide, by decide⟩ rfl ?_
  intro b12
  refine Dr.back (fun _ hs => hF10 (.there .here) hs) ?_
  refine Dr.tail 4 (by kernel_rfl) ?_
  refine Ops.sat ?_ (fun _ hs => hR11 (.there .here) hs)
  refine Ops.cl (α := Option Addr × Nat) (v := fun p => .slice p.1 3 p.2) (B := fun p => [row p.1 p.2 88 2 3 [.int .i64 1, .int .i64 0, .int .i64 3, .int .i64 2, .int .i64 5, .int .i64 1]]) en_46 rfl (fun w hs => runW (lawRun_c _ _ _ _ wNp.ns wNp.inp wNp.ss _ _ ([⟨0, 0⟩] : List Evt) 0 48 w (hs.ownRo (.there (.there .here))) (hs.ownRo (.there (.there (.there .here)))) (hs.ownRo (.there .here)) (by exact rowle_any hs (.there .here))) kLp) ?_
  rintro ⟨ra13, rc14⟩
  refine Ops.q (q_asg rfl) ?_
  refine Ops.to rfl ?_
  refine Cd.seq ?_
  refine Cd.region ?_
  refine Ops.q (q_mv rfl) ?_
  refine Ops.cl (α := Option Addr × Nat) (v := fun p => .tuple [.slice p.1 3 p.2, .int .i64 0].toArray) (B := fun p => [row p.1 p.2 3 1 3 [.int .i64 0, .int .i64 4, .int .i64 2]]) en_37 rfl (fun w hs => retL_ok (dist_c 3 _ _ ([⟨1, 0⟩, ⟨3, 2⟩, ⟨5, 1⟩] : List Evt) w (hs.ownRo .here) (by decide)) kDp) ?_
  rintro ⟨la15, lc16⟩
  refine Ops.q (q_mv rfl) ?_
  refine Ops.q (q_ext rfl rfl) ?_
  refine Ops.q (q_ext rfl rfl) ?_
  refine Ops.q (q_asg rfl) ?_
  refine Ops.q (q_asg rfl) ?_
  refine Ops.to rfl ?_
  refine Cd.seq ?_
  refine Cd.region ?_
  refine Ops.q (q_mv rfl) ?_
  refine Ops.q (q_mv rfl) ?_
  refine Ops.cl (α := Option Addr × Nat) (v := fun p => .tuple [.slice p.1 3 p.2, .int .i64 0].toArray) (B := fun p => [row p.1 p.2 3 1 3 [.int .i64 (-1), .int .i64 2, .int .i64 0]]) en_38 rfl (fun w hs => retL_ok (before_c 3 _ _ wE _ _ [0, 4, 2] w (hs.ownRo (.there (.there (.there (.there (.there (.there .here))))))) (hs.ownRo .here)) kBp) ?_
  rintro ⟨la17, lc18⟩
  refine Ops.q (q_mv rfl) ?_
  refine Ops.q (q_ext rfl rfl) ?_
  refine Ops.q (q_ext rfl rfl) ?_
  refine Ops.q (q_asg rfl) ?_
  refine Ops.q (q_asg rfl) ?_
  refine Ops.to rfl ?_
  refine Cd.seq ?_
  refine Cd.seq ?_
  refine Cd.region ?_
  refine Ops.q (q_mv rfl) ?_
  refine Ops.cp en_39 rfl (fun w hs => at_c 1 0 w) ?_
  refine Ops.cp en_39 rfl (fun w hs => at_c 3 2 w) ?_
  refine Ops.cp en_39 rfl (fun w hs => at_c 5 1 w) ?_
  refine Ops.lit [.int .i64 1, .int .i64 0, .int .i64 3, .int .i64 2, .int .i64 5, .int .i64 1] el_27 zsb_88 rfl rfl ⟨by decide, by decide⟩ rfl ?_
  intro b19
  refine Ops.cp en_20 rfl (fun w hs => dT (events_c _ _ _ _ ([⟨1, 0⟩, ⟨3, 2⟩, ⟨5, 1⟩] : List Evt) ([⟨1, 0⟩, ⟨3, 2⟩, ⟨5, 1⟩] : List Evt) w (hs.ownRo (.there (.there (.there .here)))) (hs.ownRo .here) (by decide)) rfl) ?_
  refine Ops.q (q_not rfl) ?_
  refine Ops.q (q_mv rfl) ?_
  refine Ops.q (q_mv rfl) ?_
  refine Ops.q (q_cmp rfl rfl (c_nne (by decide))) ?_
  refine Ops.q (q_pickF rfl rfl) ?_
  refine Ops.q (q_mv rfl) ?_
  refine Ops.q (q_mv rfl) ?_
  refine Ops.q (q_cmp rfl rfl (c_nne (by decide))) ?_
  refine Ops.q (q_pickF rfl rfl) ?_
  refine Ops.q (q_mv rfl) ?_
  refine Ops.q (q_mv rfl) ?_
  refine Ops.lit [.int .i64 0, .int .i64 4, .int .i64 2] el_26 zsb_3 rfl rfl ⟨by decide, by decide⟩ rfl ?_
  intro b20
  refine Ops.cp en_23 rfl (fun w hs => dT (numbers_c _ _ _ _ ([0, 4, 2] : List Int) ([0, 4, 2] : List Int) w (hs.ownRo (.there (.there (.there .here)))) (hs.ownRo .here) (by decide)) rfl) ?_
  refine Ops.q (q_not rfl) ?_
  refine Ops.q (q_pickF rfl rfl) ?_
  refine Ops.q (q_mv rfl) ?_
  refine Ops.q (q_mv rfl) ?_
  refine Ops.lit [.int .i64 (-1), .int .i64 2, .int .i64 0] el_26 zsb_3 rfl rfl ⟨by decide, by decide⟩ rfl ?_
  intro b21
  refine Ops.cp en_23 rfl (fun w hs => dT (numbers_c _ _ _ _ ([-1, 2, 0] : List Int) ([-1, 2, 0] : List Int) w (hs.ownRo (.there (.there (.there .here)))) (hs.ownRo .here) (by decide)) rfl) ?_
  refine Ops.q (q_not rfl) ?_
  refine Ops.q (q_pickF rfl rfl) ?_
  refine Ops.to rfl ?_
  refine Cd.cond_f rfl ?_
  refine Cd.skipTo rfl ?_
  refine Cd.seq ?_
  refine Cd.sat ?_ (fun _ hs => (((((((((((hs.pull (.there (.there (.there (.there (.there (.there .here))))))).pull (.there .here)).drop.pull (.there .here)).drop.pull (.there .here)).drop.pull (.there .here)).drop.pull (.there .here)).drop.pull (.there .here)).drop.pull (.there .here)).drop.pull (.there .here)).drop.pull (.there .here)).drop.pull (.there .here)).drop)
  refine Cd.region ?_
  refine Ops.cl (α := (Option Addr × Nat) × (Option Addr × Nat)) (v := fun x => .tuple [.agg [.slice x.1.1 wNs.ns.length x.1.2, .int .i64 wNs.inp, .slice x.2.1 wNs.ss.length x.2.2].toArray, .int .i64 0].toArray) (B := fun x => [row x.1.1 x.1.2 116 8 wNs.ns.length (wNs.ns.flatMap ePrm), row x.2.1 x.2.2 126 4 wNs.ss.length (wNs.ss.flatMap eSyn)]) en_24 rfl (fun w hs => retR_ok (sort_c 3 w) kNs) ?_
  rintro ⟨⟨p22, pc23⟩, ⟨q24, qc25⟩⟩
  refine Ops.q (q_mv rfl) ?_
  refine Ops.q (q_ext rfl rfl) ?_
  refine Ops.q (q_ext rfl rfl) ?_
  refine Ops.stB [.slice p22 wNs.ns.length pc23, .int .i64 wNs.inp, .slice q24 wNs.ss.length qc25] [.slice p22 wNs.ns.length pc23, .int .i64 wNs.inp, .slice q24 wNs.ss.length qc25] sz_32 rfl rfl rfl (one rfl) (.there (.there .here)) rfl rfl ?_
  refine Ops.q (q_asg rfl) ?_
  refine Ops.to rfl ?_
  refine Cd.seq ?_
  refine Cd.seq ?_
  refine Cd.draw rfl (by kernel_rfl) (.cons (.there (.there .here)) .nil) ?_
  intro F26 St27 hP28 hF29 hR30
  refine Dr.q (i := 0) hP28 rfl (by kernel_rfl) (q_ldBN [.slice p22 wNs.ns.length pc23, .int .i64 wNs.inp, .slice q24 wNs.ss.length qc25] isA_32 sz_32 rfl .here rfl) ?_
  refine Dr.q (i := 1) hP28 rfl (by kernel_rfl) (q_mv rfl) ?_
  refine Dr.e (i := 2) rfl (by kernel_rfl) ?_
  refine Ops.cp en_39 rfl (fun w hs => at_c 2 1 w) ?_
  refine Dr.back (fun _ hs => hF29 .here hs) ?_
  refine Dr.e (i := 3) rfl (by kernel_rfl) ?_
  refine Ops.cp en_39 rfl (fun w hs => at_c 5 0 w) ?_
  refine Dr.back (fun _ hs => hF29 .here hs) ?_
  refine Dr.e (i := 4) rfl (by kernel_rfl) ?_
  refine Ops.cp en_39 rfl (fun w hs => at_c 5 2 w) ?_
  refine Dr.back (fun _ hs => hF29 .here hs) ?_
  refine Dr.e (i := 5) rfl (by kernel_rfl) ?_
  refine Ops.lit [.int .i64 2, .int .i64 1, .int .i64 5, .int .i64 0, .int .i64 5, .int .i64 2] el_27 zsb_88 rfl rfl ⟨by decide, by decide⟩ rfl ?_
  intro b31
  refine Dr.back (fun _ hs => hF29 (.there .here) hs) ?_
  refine Dr.e (i := 6) rfl (by kernel_rfl) ?_
  refine Ops.cl (α := Option Addr × Nat) (v := fun p => .slice p.1 3 p.2) (B := fun p => [row p.1 p.2 88 2 3 [.int .i64 3, .int .i64 0, .int .i64 6, .int .i64 1, .int .i64 6, .int .i64 2]]) en_46 rfl (fun w hs => runW (lawRun_c _ _ _ _ wNs.ns wNs.inp wNs.ss _ _ ([⟨2, 1⟩, ⟨5, 0⟩, ⟨5, 2⟩] : List Evt) 0 9 w (hs.ownRo (.there (.there .here))) (hs.ownRo (.there (.there (.there .here)))) (hs.ownRo .here) (by exact rowle_any hs .here)) kLs) ?_
  rintro ⟨ra32, rc33⟩
  refine Dr.back (fun _ hs => hF29 (.there (.there .here)) hs) ?_
  refine Dr.e (i := 7) rfl (by kernel_rfl) ?_
  refine Ops.cp en_39 rfl (fun w hs => at_c 3 0 w) ?_
  refine Dr.back (fun _ hs => hF29 (.there (.there .here)) hs) ?_
  refine Dr.e (i := 8) rfl (by kernel_rfl) ?_
  refine Ops.cp en_39 rfl (fun w hs => at_c 6 1 w) ?_
  refine Dr.back (fun _ hs => hF29 (.there (.there .here)) hs) ?_
  refine Dr.e (i := 9) rfl (by kernel_rfl) ?_
  refine Ops.cp en_39 rfl (fun w hs => at_c 6 2 w) ?_
  refine Dr.back (fun _ hs => hF29 (.there (.there .here)) hs) ?_
  refine Dr.e (i := 10) rfl (by kernel_rfl) ?_
  refine Ops.lit [.int .i64 3, .int .i64 0, .int .i64 6, .int .i64 1, .int .i64 6, .int .i64 2] el_27 zsb_88 rfl rfl ⟨by decide, by decide⟩ rfl ?_
  intro b34
  refine Dr.back (fun _ hs => hF29 (.there (.there (.there .here))) hs) ?_
  refine Dr.e (i := 11) rfl (by kernel_rfl) ?_
  refine Ops.cp en_20 rfl (fun w hs => dT (events_c _ _ _ _ ([⟨3, 0⟩, ⟨6, 1⟩, ⟨6, 2⟩] : List Evt) ([⟨3, 0⟩, ⟨6, 1⟩, ⟨6, 2⟩] : List Evt) w (hs.ownRo (.there .here)) (hs.ownRo .here) (by decide)) rfl) ?_
  refine Dr.back (fun _ hs => hF29 (.there (.there (.there .here))) hs) ?_
  refine Dr.q (i := 12) hP28 rfl (by kernel_rfl) (q_not rfl) ?_
  refine Dr.tail 13 (by kernel_rfl) ?_
  refine Ops.sat ?_ (fun _ hs => hR30 (.there (.there (.there .here))) hs)
  refine Ops.to rfl ?_
  refine Cd.cond_f rfl ?_
  refine Cd.skipTo rfl ?_
  refine Cd.seq ?_
  refine Cd.sat ?_ (fun _ hs => ((((((hs.pull .here).pull (.there .here)).drop.pull (.there .here)).drop.pull (.there .here)).drop.pull (.there .here)).drop.pull (.there .here)).drop)
  refine Cd.region ?_
  refine Ops.lit [.int .i64 0, .int .i64 1] el_26 zsb_3 rfl rfl ⟨by decide, by decide⟩ rfl ?_
  intro b35
  refine Ops.lit [.int .i64 1, .int .i64 0] el_26 zsb_3 rfl rfl ⟨by decide, by decide⟩ rfl ?_
  intro b36
  refine Ops.lit [.slice (some ⟨b35, 0, none⟩) 2 2, .slice (some ⟨b36, 0, none⟩) 2 2] el_22 zsb_26 rfl rfl ⟨by decide, by decide⟩ rfl ?_
  intro b37
  refine Ops.lit [.bool false, .bool true] el_23 zsb_4 rfl rfl ⟨by decide, by decide⟩ rfl ?_
  intro b38
  refine Ops.q (q_bld [.slice (some ⟨b37, 0, none⟩) 2 2, .int .i64 0, .slice (some ⟨b38, 0, none⟩) 2 2] pls_36 zc_36 rfl rfl) ?_
  refine Ops.alc [.slice none 0 0, .int .i64 0, .slice none 0 0] zc_36 ?_
  intro b39
  refine Ops.stB [.slice (some ⟨b37, 0, none⟩) 2 2, .int .i64 0, .slice (some ⟨b38, 0, none⟩) 2 2] [.slice (some ⟨b37, 0, none⟩) 2 2, .int .i64 0, .slice (some ⟨b38, 0, none⟩) 2 2] sz_36 rfl rfl rfl (one rfl) .here rfl rfl ?_
  refine Ops.to rfl ?_
  refine Cd.seq ?_
  refine Cd.region ?_
  refine Ops.q (q_ldBN [.slice (some ⟨b37, 0, none⟩) 2 2, .int .i64 0, .slice (some ⟨b38, 0, none⟩) 2 2] isA_36 sz_36 rfl .here rfl) ?_
  refine Ops.cl (α := (Option Addr × Nat) × (Option Addr × Nat)) (v := fun x => .tuple [.agg [.slice x.1.1 wNm.ns.length x.1.2, .int .i64 wNm.inp, .slice x.2.1 wNm.ss.length x.2.2].toArray, .int .i64 0].toArray) (B := fun x => [row x.1.1 x.1.2 116 8 wNm.ns.length (wNm.ns.flatMap ePrm), row x.2.1 x.2.2 126 4 wNm.ss.length (wNm.ss.flatMap eSyn)]) en_14 rfl (fun w hs => retR_ok (machine_c _ _ [(((some ⟨b35, 0, none⟩, 2), ([0, 1] : List Int)) : NL), (((some ⟨b36, 0, none⟩, 2), ([1, 0] : List Int)) : NL)] 0 _ _ [false, true] w ⟨hs.ownRo (.there (.there .here)), List.forall_mem_cons.2 ⟨hs.ownRo (.there (.there (.there (.there .here)))), List.forall_mem_cons.2 ⟨hs.ownRo (.there (.there (.there .here))), fun _ h => by cases h⟩⟩⟩ (hs.ownRo (.there .here))) kNm) ?_
  rintro ⟨⟨p40, pc41⟩, ⟨q42, qc43⟩⟩
  refine Ops.q (q_mv rfl) ?_
  refine Ops.q (q_ext rfl rfl) ?_
  refine Ops.q (q_ext rfl rfl) ?_
  refine Ops.stB [.slice p40 wNm.ns.length pc41, .int .i64 wNm.inp, .slice q42 wNm.ss.length qc43] [.slice p40 wNm.ns.length pc41, .int .i64 wNm.inp, .slice q42 wNm.ss.length qc43] sz_32 rfl rfl rfl (one rfl) (.there (.there (.there (.there (.there (.there (.there .here))))))) rfl rfl ?_
  refine Ops.q (q_asg rfl) ?_
  refine Ops.to rfl ?_
  refine Cd.seq ?_
  refine Cd.region ?_
  refine Ops.q (q_ldBN [.slice (some ⟨b37, 0, none⟩) 2 2, .int .i64 0, .slice (some ⟨b38, 0, none⟩) 2 2] isA_36 sz_36 rfl (.there (.there .here)) rfl) ?_
  refine Ops.lit [.int .i64 1, .int .i64 1, .int .i64 0] el_26 zsb_3 rfl rfl ⟨by decide, by decide⟩ rfl ?_
  intro b44
  refine Ops.cl (α := Option Addr × Nat) (v := fun p => .tuple [.slice p.1 4 p.2, .int .i64 0].toArray) (B := fun p => [row p.1 p.2 88 2 4 [.int .i64 0, .int .i64 1, .int .i64 0, .int .i64 2, .int .i64 3, .int .i64 1, .int .i64 6, .int .i64 0]]) en_18 rfl (fun w hs => retE_ok (word_c _ _ [(((some ⟨b35, 0, none⟩, 2), ([0, 1] : List Int)) : NL), (((some ⟨b36, 0, none⟩, 2), ([1, 0] : List Int)) : NL)] 0 _ 2 _ _ _ [1, 1, 0] w ⟨hs.ownRo (.there (.there (.there (.there (.there .here))))), List.forall_mem_cons.2 ⟨hs.ownRo (.there (.there (.there (.there (.there (.there (.there .here))))))), List.forall_mem_cons.2 ⟨hs.ownRo (.there (.there (.there (.there (.there (.there .here)))))), fun _ h => by cases h⟩⟩⟩ (hs.ownRo .here)) kWm) ?_
  rintro ⟨la45, lc46⟩
  refine Ops.q (q_mv rfl) ?_
  refine Ops.q (q_ext rfl rfl) ?_
  refine Ops.q (q_ext rfl rfl) ?_
  refine Ops.q (q_asg rfl) ?_
  refine Ops.q (q_asg rfl) ?_
  refine Ops.to rfl ?_
  refine Cd.seq ?_
  refine Cd.region ?_
  refine Ops.q (q_ldBN [.slice p40 wNm.ns.length pc41, .int .i64 wNm.inp, .slice q42 wNm.ss.length qc43] isA_32 sz_32 rfl (.there (.there (.there (.there (.there (.there (.there (.there (.there .here))))))))) rfl) ?_
  refine Ops.q (q_mv rfl) ?_
  refine Ops.q (q_mv rfl) ?_
  refine Ops.cl (α := Option Addr × Nat) (v := fun p => .slice p.1 8 p.2) (B := fun p => [row p.1 p.2 88 2 8 [.int .i64 1, .int .i64 0, .int .i64 2, .int .i64 3, .int .i64 4, .int .i64 1, .int .i64 5, .int .i64 5, .int .i64 5, .int .i64 6, .int .i64 7, .int .i64 0, .int .i64 8, .int .i64 2, .int .i64 10, .int .i64 0]]) en_46 rfl (fun w hs => runW (lawRun_c _ _ _ _ wNm.ns wNm.inp wNm.ss _ _ ([⟨0, 1⟩, ⟨0, 2⟩, ⟨3, 1⟩, ⟨6, 0⟩] : List Evt) 0 12 w (hs.ownRo (.there (.there .here))) (hs.ownRo (.there (.there (.there .here)))) (hs.ownRo .here) (by exact rowle_any hs .here)) kLm) ?_
  rintro ⟨ra47, rc48⟩
  refine Ops.q (q_asg rfl) ?_
  refine Ops.to rfl ?_
  refine Cd.seq ?_
  refine Cd.region ?_
  refine Ops.q (q_ldBN [.slice (some ⟨b37, 0, none⟩) 2 2, .int .i64 0, .slice (some ⟨b38, 0, none⟩) 2 2] isA_36 sz_36 rfl (.there (.there (.there (.there (.there .here))))) rfl) ?_
  refine Ops.q (q_mv rfl) ?_
  refine Ops.cl (α := Option Addr × Nat) (v := fun p => .tuple [.slice p.1 4 p.2, .int .i64 0].toArray) (B := fun p => [row p.1 p.2 3 1 4 [.int .i64 0, .int .i64 1, .int .i64 0, .int .i64 0]]) en_21 rfl (fun w hs => retL_ok (states_c _ _ [(((some ⟨b35, 0, none⟩, 2), ([0, 1] : List Int)) : NL), (((some ⟨b36, 0, none⟩, 2), ([1, 0] : List Int)) : NL)] 0 _ 2 _ _ _ ([⟨1, 0⟩, ⟨2, 3⟩, ⟨4, 1⟩, ⟨5, 5⟩, ⟨5, 6⟩, ⟨7, 0⟩, ⟨8, 2⟩, ⟨10, 0⟩] : List Evt) w ⟨hs.ownRo (.there (.there (.there (.there (.there (.there (.there .here))))))), List.forall_mem_cons.2 ⟨hs.ownRo (.there (.there (.there (.there (.there (.there (.there (.there (.there .here))))))))), List.forall_mem_cons.2 ⟨hs.ownRo (.there (.there (.there (.there (.there (.there (.there (.there .here)))))))), fun _ h => by cases h⟩⟩⟩ (hs.ownRo .here) (by decide)) kSm) ?_
  rintro ⟨la49, lc50⟩
  refine Ops.q (q_mv rfl) ?_
  refine Ops.q (q_ext rfl rfl) ?_
  refine Ops.q (q_ext rfl rfl) ?_
  refine Ops.q (q_asg rfl) ?_
  refine Ops.q (q_asg rfl) ?_
  refine Ops.to rfl ?_
  refine Cd.seq ?_
  refine Cd.seq ?_
  refine Cd.region ?_
  refine Ops.q (q_mv rfl) ?_
  refine Ops.q (q_cmp rfl rfl (c_nne (by decide))) ?_
  refine Ops.q (q_mv rfl) ?_
  refine Ops.q (q_mv rfl) ?_
  refine Ops.q (q_cmp rfl rfl (c_nne (by decide))) ?_
  refine Ops.q (q_pickF rfl rfl) ?_
  refine Ops.q (q_mv rfl) ?_
  refine Ops.q (q_mv rfl) ?_
  refine Ops.cp en_39 rfl (fun w hs => at_c 0 1 w) ?_
  refine Ops.cp en_39 rfl (fun w hs => at_c 0 2 w) ?_
  refine Ops.cp en_39 rfl (fun w hs => at_c 3 1 w) ?_
  refine Ops.cp en_39 rfl (fun w hs => at_c 6 0 w) ?_
  refine Ops.lit [.int .i64 0, .int .i64 1, .int .i64 0, .int .i64 2, .int .i64 3, .int .i64 1, .int .i64 6, .int .i64 0] el_27 zsb_88 rfl rfl ⟨by decide, by decide⟩ rfl ?_
  intro b51
  refine Ops.cp en_20 rfl (fun w hs => dT (events_c _ _ _ _ ([⟨0, 1⟩, ⟨0, 2⟩, ⟨3, 1⟩, ⟨6, 0⟩] : List Evt) ([⟨0, 1⟩, ⟨0, 2⟩, ⟨3, 1⟩, ⟨6, 0⟩] : List Evt) w (hs.ownRo (.there (.there (.there .here)))) (hs.ownRo .here) (by decide)) rfl) ?_
  refine Ops.q (q_not rfl) ?_
  refine Ops.q (q_pickF rfl rfl) ?_
  refine Ops.q (q_mv rfl) ?_
  refine Ops.q (q_mv rfl) ?_
  refine Ops.lit [.int .i64 0, .int .i64 1, .int .i64 0, .int .i64 0] el_26 zsb_3 rfl rfl ⟨by decide, by decide⟩ rfl ?_
  intro b52
  refine Ops.cp en_23 rfl (fun w hs => dT (numbers_c _ _ _ _ ([0, 1, 0, 0] : List Int) ([0, 1, 0, 0] : List Int) w (hs.ownRo (.there (.there .here))) (hs.ownRo .here) (by decide)) rfl) ?_
  refine Ops.q (q_not rfl) ?_
  refine Ops.q (q_pickF rfl rfl) ?_
  refine Ops.to rfl ?_
  refine Cd.cond_f rfl ?_
  refine Cd.skipTo rfl ?_
  refine Cd.seq ?_
  refine Cd.sat ?_ (fun _ hs => ((((((((((((((hs.pull (.there (.there (.there (.there (.there (.there (.there (.there (.there (.there (.there (.there (.there .here)))))))))))))).pull (.there .here)).drop.pull (.there .here)).drop.pull (.there .here)).drop.pull (.there .here)).drop.pull (.there .here)).drop.pull (.there .here)).drop.pull (.there .here)).drop.pull (.there .here)).drop.pull (.there .here)).drop.pull (.there .here)).drop.pull (.there .here)).drop.pull (.there .here)).drop.pull (.there .here)).drop)
  refine Cd.region ?_
  refine Ops.q (q_bld [.slice none 0 0, .int .i64 0] pls_55 zc_55 rfl rfl) ?_
  refine Ops.lit [.int .i64 0] el_26 zsb_3 rfl rfl ⟨by decide, by decide⟩ rfl ?_
  intro b53
  refine Ops.q (q_bld [.slice (some ⟨b53, 0, none⟩) 1 1, .int .i64 1] pls_55 zc_55 rfl rfl) ?_
  refine Ops.lit [.int .i64 0, .int .i64 1] el_26 zsb_3 rfl rfl ⟨by decide, by decide⟩ rfl ?_
  intro b54
  refine Ops.q (q_bld [.slice (some ⟨b54, 0, none⟩) 2 2, .int .i64 (-1)] pls_55 zc_55 rfl rfl) ?_
  refine Ops.lit [.int .i64 2] el_26 zsb_3 rfl rfl ⟨by decide, by decide⟩ rfl ?_
  intro b55
  refine Ops.q (q_bld [.slice (some ⟨b55, 0, none⟩) 1 1, .int .i64 2] pls_55 zc_55 rfl rfl) ?_
  refine Ops.lit [.slice none 0 0, .int .i64 0, .slice (some ⟨b53, 0, none⟩) 1 1, .int .i64 1, .slice (some ⟨b54, 0, none⟩) 2 2, .int .i64 (-1), .slice (some ⟨b55, 0, none⟩) 1 1, .int .i64 2] el_52 zsb_55 rfl rfl ⟨by decide, by decide⟩ rfl ?_
  intro b56
  refine Ops.cl (α := (Option Addr × Nat) × (Option Addr × Nat)) (v := fun x => .tuple [.agg [.slice x.1.1 wNh.ns.length x.1.2, .int .i64 wNh.inp, .slice x.2.1 wNh.ss.length x.2.2].toArray, .int .i64 0].toArray) (B := fun x => [row x.1.1 x.1.2 116 8 wNh.ns.length (wNh.ns.flatMap ePrm), row x.2.1 x.2.2 126 4 wNh.ss.length (wNh.ss.flatMap eSyn)]) en_26 rfl (fun w hs => retR_ok (horn_c 3 _ _ [((((none, 0), []), 0) : CL), ((((some ⟨b53, 0, none⟩, 1), ([0] : List Int)), 1) : CL), ((((some ⟨b54, 0, none⟩, 2), ([0, 1] : List Int)), -1) : CL), ((((some ⟨b55, 0, none⟩, 1), ([2] : List Int)), 2) : CL)] w ⟨hs.ownRo .here, List.forall_mem_cons.2 ⟨(Ro.nil _ _), List.forall_mem_cons.2 ⟨hs.ownRo (.there (.there (.there .here))), List.forall_mem_cons.2 ⟨hs.ownRo (.there (.there .here)), List.forall_mem_cons.2 ⟨hs.ownRo (.there .here), fun _ h => by cases h⟩⟩⟩⟩⟩) kNh) ?_
  rintro ⟨⟨p57, pc58⟩, ⟨q59, qc60⟩⟩
  refine Ops.q (q_mv rfl) ?_
  refine Ops.q (q_ext rfl rfl) ?_
  refine Ops.q (q_ext rfl rfl) ?_
  refine Ops.stB [.slice p57 wNh.ns.length pc58, .int .i64 wNh.inp, .slice q59 wNh.ss.length qc60] [.slice p57 wNh.ns.length pc58, .int .i64 wNh.inp, .slice q59 wNh.ss.length qc60] sz_32 rfl rfl rfl (one rfl) (.there (.there (.there (.there (.there (.there .here)))))) rfl rfl ?_
  refine Ops.q (q_asg rfl) ?_
  refine Ops.to rfl ?_
  refine Cd.seq ?_
  refine Cd.seq ?_
  refine Cd.draw rfl (by kernel_rfl) (.cons (.there (.there (.there (.there (.there (.there .here)))))) .nil) ?_
  intro F61 St62 hP63 hF64 hR65
  refine Dr.q (i := 0) hP63 rfl (by kernel_rfl) (q_ldBN [.slice p57 wNh.ns.length pc58, .int .i64 wNh.inp, .slice q59 wNh.ss.length qc60] isA_32 sz_32 rfl .here rfl) ?_
  refine Dr.q (i := 1) hP63 rfl (by kernel_rfl) (q_mv rfl) ?_
  refine Dr.e (i := 2) rfl (by kernel_rfl) ?_
  refine Ops.cp en_39 rfl (fun w hs => at_c 0 0 w) ?_
  refine Dr.back (fun _ hs => hF64 .here hs) ?_
  refine Dr.e (i := 3) rfl (by kernel_rfl) ?_
  refine Ops.lit [.int .i64 0, .int .i64 0] el_27 zsb_88 rfl rfl ⟨by decide, by decide⟩ rfl ?_
  intro b66
  refine Dr.back (fun _ hs => hF64 (.there .here) hs) ?_
  refine Dr.tail 4 (by kernel_rfl) ?_
  refine Ops.sat ?_ (fun _ hs => hR65 (.there .here) hs)
  refine Ops.cl (α := Option Addr × Nat) (v := fun p => .slice p.1 6 p.2) (B := fun p => [row p.1 p.2 88 2 6 [.int .i64 1, .int .i64 4, .int .i64 2, .int .i64 0, .int .i64 3, .int .i64 5, .int .i64 4, .int .i64 1, .int .i64 5, .int .i64 6, .int .i64 6, .int .i64 3]]) en_46 rfl (fun w hs => runW (lawRun_c _ _ _ _ wNh.ns wNh.inp wNh.ss _ _ ([⟨0, 0⟩] : List Evt) 0 9 w (hs.ownRo (.there (.there .here))) (hs.ownRo (.there (.there (.there .here)))) (hs.ownRo (.there .here)) (by exact rowle_any hs (.there .here))) kLh) ?_
  rintro ⟨ra67, rc68⟩
  refine Ops.q (q_asg rfl) ?_
  refine Ops.to rfl ?_
  refine Cd.seq ?_
  refine Cd.rowpos .here (by decide) ?_
  rintro rb rfl
  refine Cd.draw rfl (by kernel_rfl) (.cons .here .nil) ?_
  intro F69 St70 hP71 hF72 hR73
  refine Dr.q (i := 0) hP71 rfl (by kernel_rfl) (q_mv rfl) ?_
  refine Dr.q (i := 1) hP71 rfl (by kernel_rfl) (q_len esz_27 rfl) ?_
  refine Dr.q (i := 2) hP71 rfl (by kernel_rfl) (q_cmp rfl rfl (c_nne (by decide))) ?_
  refine Dr.q (i := 3) hP71 rfl (by kernel_rfl) (q_mv rfl) ?_
  refine Dr.q (i := 4) hP71 rfl (by kernel_rfl) (q_mv rfl) ?_
  refine Dr.q (i := 5) hP71 rfl (by kernel_rfl) (q_ix (k := 1) esz_27 rfl rfl (by omega)) ?_
  refine Dr.q (i := 6) hP71 rfl (by kernel_rfl) (q_ldON [.int .i64 2, .int .i64 0] isA_88 sz_88 rfl .here rfl) ?_
  refine Dr.e (i := 7) rfl (by kernel_rfl) ?_
  refine Ops.cp en_39 rfl (fun w hs => at_c 2 0 w) ?_
  refine Dr.back (fun _ hs => hF72 .here hs) ?_
  refine Dr.q (i := 8) hP71 rfl (by kernel_rfl) (q_neF [2, 0] [2, 0] intS_88 rfl rfl rfl rfl rfl (by decide)) ?_
  refine Dr.q (i := 9) hP71 rfl (by kernel_rfl) (q_pickF rfl rfl) ?_
  refine Dr.q (i := 10) hP71 rfl (by kernel_rfl) (q_mv rfl) ?_
  refine Dr.q (i := 11) hP71 rfl (by kernel_rfl) (q_mv rfl) ?_
  refine Dr.q (i := 12) hP71 rfl (by kernel_rfl) (q_ix (k := 3) esz_27 rfl rfl (by omega)) ?_
  refine Dr.q (i := 13) hP71 rfl (by kernel_rfl) (q_ldON [.int .i64 4, .int .i64 1] isA_88 sz_88 rfl .here rfl) ?_
  refine Dr.e (i := 14) rfl (by kernel_rfl) ?_
  refine Ops.cp en_39 rfl (fun w hs => at_c 4 1 w) ?_
  refine Dr.back (fun _ hs => hF72 .here hs) ?_
  refine Dr.q (i := 15) hP71 rfl (by kernel_rfl) (q_neF [4, 1] [4, 1] intS_88 rfl rfl rfl rfl rfl (by decide)) ?_
  refine Dr.q (i := 16) hP71 rfl (by kernel_rfl) (q_pickF rfl rfl) ?_
  refine Dr.q (i := 17) hP71 rfl (by kernel_rfl) (q_mv rfl) ?_
  refine Dr.q (i := 18) hP71 rfl (by kernel_rfl) (q_mv rfl) ?_
  refine Dr.q (i := 19) hP71 rfl (by kernel_rfl) (q_ix (k := 5) esz_27 rfl rfl (by omega)) ?_
  refine Dr.q (i := 20) hP71 rfl (by kernel_rfl) (q_ldON [.int .i64 6, .int .i64 3] isA_88 sz_88 rfl .here rfl) ?_
  refine Dr.e (i := 21) rfl (by kernel_rfl) ?_
  refine Ops.cp en_39 rfl (fun w hs => at_c 6 3 w) ?_
  refine Dr.back (fun _ hs => hF72 .here hs) ?_
  refine Dr.q (i := 22) hP71 rfl (by kernel_rfl) (q_neF [6, 3] [6, 3] intS_88 rfl rfl rfl rfl rfl (by decide)) ?_
  refine Dr.q (i := 23) hP71 rfl (by kernel_rfl) (q_pickF rfl rfl) ?_
  refine Dr.tail 24 (by kernel_rfl) ?_
  refine Ops.sat ?_ (fun _ hs => hR73 .here hs)
  refine Ops.to rfl ?_
  refine Cd.cond_f rfl ?_
  refine Cd.skipTo rfl ?_
  refine Cd.seq ?_
  refine Cd.sat ?_ (fun _ hs => (((((((((hs.pull (.there .here)).pull (.there .here)).drop.pull (.there .here)).drop.pull (.there .here)).drop.pull (.there .here)).drop.pull (.there .here)).drop.pull (.there .here)).drop.pull (.there .here)).drop.pull (.there .here)).drop)
  refine Cd.region ?_
  refine Ops.lit [.int .i64 0] el_26 zsb_3 rfl rfl ⟨by decide, by decide⟩ rfl ?_
  intro b74
  refine Ops.lit [.int .i64 1] el_26 zsb_3 rfl rfl ⟨by decide, by decide⟩ rfl ?_
  intro b75
  refine Ops.q (q_bld [.slice (some ⟨b74, 0, none⟩) 1 1, .slice (some ⟨b75, 0, none⟩) 1 1] pls_61 zc_61 rfl rfl) ?_
  refine Ops.lit [.slice (some ⟨b74, 0, none⟩) 1 1, .slice (some ⟨b75, 0, none⟩) 1 1] el_58 zsb_61 rfl rfl ⟨by decide, by decide⟩ rfl ?_
  intro b76
  refine Ops.cl (α := (Option Addr × Nat) × (Option Addr × Nat)) (v := fun x => .tuple [.agg [.slice x.1.1 wNr.ns.length x.1.2, .int .i64 wNr.inp, .slice x.2.1 wNr.ss.length x.2.2].toArray, .int .i64 0].toArray) (B := fun x => [row x.1.1 x.1.2 116 8 wNr.ns.length (wNr.ns.flatMap ePrm), row x.2.1 x.2.2 126 4 wNr.ss.length (wNr.ss.flatMap eSyn)]) en_28 rfl (fun w hs => retR_ok (memory_c 2 2 _ _ [(((((some ⟨b74, 0, none⟩, 1), [0]), ((some ⟨b75, 0, none⟩, 1), [1]))) : PR)] w ⟨hs.ownRo .here, List.forall_mem_cons.2 ⟨⟨hs.ownRo (.there (.there .here)), hs.ownRo (.there .here)⟩, fun _ h => by cases h⟩⟩ (List.forall_mem_cons.2 ⟨⟨(show (1 : Nat) ≤ 1000000 by decide), (show (1 : Nat) ≤ 1000000 by decide)⟩, fun _ h => by cases h⟩)) kNr) ?_
  rintro ⟨⟨p77, pc78⟩, ⟨q79, qc80⟩⟩
  refine Ops.q (q_mv rfl) ?_
  refine Ops.q (q_ext rfl rfl) ?_
  refine Ops.q (q_ext rfl rfl) ?_
  refine Ops.stB [.slice p77 wNr.ns.length pc78, .int .i64 wNr.inp, .slice q79 wNr.ss.length qc80] [.slice p77 wNr.ns.length pc78, .int .i64 wNr.inp, .slice q79 wNr.ss.length qc80] sz_32 rfl rfl rfl (one rfl) (.there (.there (.there (.there (.there .here))))) rfl rfl ?_
  refine Ops.q (q_asg rfl) ?_
  refine Ops.to rfl ?_
  refine Cd.seq ?_
  refine Cd.seq ?_
  refine Cd.draw rfl (by kernel_rfl) (.cons (.there (.there (.there (.there (.there .here))))) .nil) ?_
  intro F81 St82 hP83 hF84 hR85
  refine Dr.q (i := 0) hP83 rfl (by kernel_rfl) (q_ldBN [.slice p77 wNr.ns.length pc78, .int .i64 wNr.inp, .slice q79 wNr.ss.length qc80] isA_32 sz_32 rfl .here rfl) ?_
  refine Dr.q (i := 1) hP83 rfl (by kernel_rfl) (q_mv rfl) ?_
  refine Dr.e (i := 2) rfl (by kernel_rfl) ?_
  refine Ops.cp en_39 rfl (fun w hs => at_c 4 0 w) ?_
  refine Dr.back (fun _ hs => hF84 .here hs) ?_
  refine Dr.e (i := 3) rfl (by kernel_rfl) ?_
  refine Ops.cp en_39 rfl (fun w hs => at_c 4 2 w) ?_
  refine Dr.back (fun _ hs => hF84 .here hs) ?_
  refine Dr.e (i := 4) rfl (by kernel_rfl) ?_
  refine Ops.lit [.int .i64 4, .int .i64 0, .int .i64 4, .int .i64 2] el_27 zsb_88 rfl rfl ⟨by decide, by decide⟩ rfl ?_
  intro b86
  refine Dr.back (fun _ hs => hF84 (.there .here) hs) ?_
  refine Dr.e (i := 5) rfl (by kernel_rfl) ?_
  refine Ops.cl (α := Option Addr × Nat) (v := fun p => .slice p.1 1 p.2) (B := fun p => [row p.1 p.2 88 2 1 [.int .i64 5, .int .i64 1]]) en_46 rfl (fun w hs => runW (lawRun_c _ _ _ _ wNr.ns wNr.inp wNr.ss _ _ ([⟨4, 0⟩, ⟨4, 2⟩] : List Evt) 0 9 w (hs.ownRo (.there (.there .here))) (hs.ownRo (.there (.there (.there .here)))) (hs.ownRo .here) (by exact rowle_any hs .here)) kLr) ?_
  rintro ⟨ra87, rc88⟩
  refine Dr.back (fun _ hs => hF84 (.there (.there .here)) hs) ?_
  refine Dr.e (i := 6) rfl (by kernel_rfl) ?_
  refine Ops.cp en_39 rfl (fun w hs => at_c 5 1 w) ?_
  refine Dr.back (fun _ hs => hF84 (.there (.there .here)) hs) ?_
  refine Dr.e (i := 7) rfl (by kernel_rfl) ?_
  refine Ops.lit [.int .i64 5, .int .i64 1] el_27 zsb_88 rfl rfl ⟨by decide, by decide⟩ rfl ?_
  intro b89
  refine Dr.back (fun _ hs => hF84 (.there (.there (.there .here))) hs) ?_
  refine Dr.e (i := 8) rfl (by kernel_rfl) ?_
  refine Ops.cp en_20 rfl (fun w hs => dT (events_c _ _ _ _ ([⟨5, 1⟩] : List Evt) ([⟨5, 1⟩] : List Evt) w (hs.ownRo (.there .here)) (hs.ownRo .here) (by decide)) rfl) ?_
  refine Dr.back (fun _ hs => hF84 (.there (.there (.there .here))) hs) ?_
  refine Dr.q (i := 9) hP83 rfl (by kernel_rfl) (q_not rfl) ?_
  refine Dr.tail 10 (by kernel_rfl) ?_
  refine Ops.sat ?_ (fun _ hs => hR85 (.there (.there (.there .here))) hs)
  refine Ops.to rfl ?_
  refine Cd.cond_f rfl ?_
  refine Cd.skipTo rfl ?_
  refine Cd.seq ?_
  refine Cd.sat ?_ (fun _ hs => (((((((((hs.pull .here).pull (.there .here)).drop.pull (.there .here)).drop.pull (.there .here)).drop.pull (.there .here)).drop.pull (.there .here)).drop.pull (.there .here)).drop.pull (.there .here)).drop.pull (.there .here)).drop)
  refine Cd.region ?_
  refine Ops.q (q_bld [.int .i64 0, .int .i64 5, .int .i64 1] pls_70 zc_70 rfl rfl) ?_
  refine Ops.lit [.int .i64 0, .int .i64 5, .int .i64 1] el_67 zsb_70 rfl rfl ⟨by decide, by decide⟩ rfl ?_
  intro b90
  refine Ops.cl (α := (Option Addr × Nat) × (Option Addr × Nat)) (v := fun x => .tuple [.agg [.slice x.1.1 wNc.ns.length x.1.2, .int .i64 wNc.inp, .slice x.2.1 wNc.ss.length x.2.2].toArray, .int .i64 0].toArray) (B := fun x => [row x.1.1 x.1.2 116 8 wNc.ns.length (wNc.ns.flatMap ePrm), row x.2.1 x.2.2 126 4 wNc.ss.length (wNc.ss.flatMap eSyn)]) en_30 rfl (fun w hs => retR_ok (count_c 1 _ _ [⟨0, 5, 1⟩] 2 w (hs.ownRo .here)) kNc) ?_
  rintro ⟨⟨p91, pc92⟩, ⟨q93, qc94⟩⟩
  refine Ops.q (q_mv rfl) ?_
  refine Ops.q (q_ext rfl rfl) ?_
  refine Ops.q (q_ext rfl rfl) ?_
  refine Ops.stB [.slice p91 wNc.ns.length pc92, .int .i64 wNc.inp, .slice q93 wNc.ss.length qc94] [.slice p91 wNc.ns.length pc92, .int .i64 wNc.inp, .slice q93 wNc.ss.length qc94] sz_32 rfl rfl rfl (one rfl) (.there (.there (.there .here))) rfl rfl ?_
  refine Ops.q (q_asg rfl) ?_
  refine Ops.to rfl ?_
  refine Cd.seq ?_
  refine Cd.seq ?_
  refine Cd.draw rfl (by kernel_rfl) (.cons (.there (.there (.there .here))) .nil) ?_
  intro F95 St96 hP97 hF98 hR99
  refine Dr.q (i := 0) hP97 rfl (by kernel_rfl) (q_ldBN [.slice p91 wNc.ns.length pc92, .int .i64 wNc.inp, .slice q93 wNc.ss.length qc94] isA_32 sz_32 rfl .here rfl) ?_
  refine Dr.q (i := 1) hP97 rfl (by kernel_rfl) (q_mv rfl) ?_
  refine Dr.e (i := 2) rfl (by kernel_rfl) ?_
  refine Ops.cp en_39 rfl (fun w hs => at_c 0 0 w) ?_
  refine Dr.back (fun _ hs => hF98 .here hs) ?_
  refine Dr.e (i := 3) rfl (by kernel_rfl) ?_
  refine Ops.lit [.int .i64 0, .int .i64 0] el_27 zsb_88 rfl rfl ⟨by decide, by decide⟩ rfl ?_
  intro b100
  refine Dr.back (fun _ hs => hF98 (.there .here) hs) ?_
  refine Dr.tail 4 (by kernel_rfl) ?_
  refine Ops.sat ?_ (fun _ hs => hR99 (.there .here) hs)
  refine Ops.cl (α := Option Addr × Nat) (v := fun p => .slice p.1 2 p.2) (B := fun p => [row p.1 p.2 88 2 2 [.int .i64 1, .int .i64 0, .int .i64 2, .int .i64 0]]) en_46 rfl (fun w hs => runW (lawRun_c _ _ _ _ wNc.ns wNc.inp wNc.ss _ _ ([⟨0, 0⟩] : List Evt) 0 9 w (hs.ownRo (.there (.there .here))) (hs.ownRo (.there (.there (.there .here)))) (hs.ownRo (.there .here)) (by exact rowle_any hs (.there .here))) kLc) ?_
  rintro ⟨ra101, rc102⟩
  refine Ops.cp en_39 rfl (fun w hs => at_c 1 0 w) ?_
  refine Ops.cp en_39 rfl (fun w hs => at_c 2 0 w) ?_
  refine Ops.lit [.int .i64 1, .int .i64 0, .int .i64 2, .int .i64 0] el_27 zsb_88 rfl rfl ⟨by decide, by decide⟩ rfl ?_
  intro b103
  refine Ops.cp en_20 rfl (fun w hs => dT (events_c _ _ _ _ ([⟨1, 0⟩, ⟨2, 0⟩] : List Evt) ([⟨1, 0⟩, ⟨2, 0⟩] : List Evt) w (hs.ownRo (.there .here)) (hs.ownRo .here) (by decide)) rfl) ?_
  refine Ops.q (q_not rfl) ?_
  refine Ops.to rfl ?_
  refine Cd.cond_f rfl ?_
  refine Cd.skipTo rfl ?_
  refine Cd.seq ?_
  refine Cd.sat ?_ (fun _ hs => (((((((hs.pull (.there (.there .here))).pull (.there .here)).drop.pull (.there .here)).drop.pull (.there .here)).drop.pull (.there .here)).drop.pull (.there .here)).drop.pull (.there .here)).drop)
  refine Cd.region ?_
  refine Ops.q (q_bld [.int .i64 0, .int .i64 0] pls_76 zc_76 rfl rfl) ?_
  refine Ops.q (q_bld [.int .i64 1, .int .i64 3] pls_76 zc_76 rfl rfl) ?_
  refine Ops.lit [.int .i64 0, .int .i64 0, .int .i64 1, .int .i64 3] el_73 zsb_76 rfl rfl ⟨by decide, by decide⟩ rfl ?_
  intro b104
  refine Ops.cl (α := (Option Addr × Nat) × (Option Addr × Nat)) (v := fun x => .tuple [.agg [.slice x.1.1 wNq.ns.length x.1.2, .int .i64 wNq.inp, .slice x.2.1 wNq.ss.length x.2.2].toArray, .int .i64 0].toArray) (B := fun x => [row x.1.1 x.1.2 116 8 wNq.ns.length (wNq.ns.flatMap ePrm), row x.2.1 x.2.2 126 4 wNq.ss.length (wNq.ss.flatMap eSyn)]) en_32 rfl (fun w hs => retR_ok (pattern_c 2 _ _ [⟨0, 0⟩, ⟨1, 3⟩] 0 w (hs.ownRo .here) (by decide)) kNq) ?_
  rintro ⟨⟨p105, pc106⟩, ⟨q107, qc108⟩⟩
  refine Ops.q (q_mv rfl) ?_
  refine Ops.q (q_ext rfl rfl) ?_
  refine Ops.q (q_ext rfl rfl) ?_
  refine Ops.stB [.slice p105 wNq.ns.length pc106, .int .i64 wNq.inp, .slice q107 wNq.ss.length qc108] [.slice p105 wNq.ns.length pc106, .int .i64 wNq.inp, .slice q107 wNq.ss.length qc108] sz_32 rfl rfl rfl (one rfl) (.there (.there (.there .here))) rfl rfl ?_
  refine Ops.q (q_asg rfl) ?_
  refine Ops.to rfl ?_
  refine Cd.seq ?_
  refine Cd.draw rfl (by kernel_rfl) (.cons (.there (.there (.there .here))) .nil) ?_
  intro F109 St110 hP111 hF112 hR113
  refine Dr.q (i := 0) hP111 rfl (by kernel_rfl) (q_ldBN [.slice p105 wNq.ns.length pc106, .int .i64 wNq.inp, .slice q107 wNq.ss.length qc108] isA_32 sz_32 rfl .here rfl) ?_
  refine Dr.q (i := 1) hP111 rfl (by kernel_rfl) (q_mv rfl) ?_
  refine Dr.e (i := 2) rfl (by kernel_rfl) ?_
  refine Ops.cp en_39 rfl (fun w hs => at_c 1 0 w) ?_
  refine Dr.back (fun _ hs => hF112 .here hs) ?_
  refine Dr.e (i := 3) rfl (by kernel_rfl) ?_
  refine Ops.cp en_39 rfl (fun w hs => at_c 4 1 w) ?_
  refine Dr.back (fun _ hs => hF112 .here hs) ?_
  refine Dr.e (i := 4) rfl (by kernel_rfl) ?_
  refine Ops.lit [.int .i64 1, .int .i64 0, .int .i64 4, .int .i64 1] el_27 zsb_88 rfl rfl ⟨by decide, by decide⟩ rfl ?_
  intro b114
  refine Dr.back (fun _ hs => hF112 (.there .here) hs) ?_
  refine Dr.e (i := 5) rfl (by kernel_rfl) ?_
  refine Ops.cl (α := Option Addr × Nat) (v := fun p => .slice p.1 1 p.2) (B := fun p => [row p.1 p.2 88 2 1 [.int .i64 17, .int .i64 0]]) en_46 rfl (fun w hs => runW (lawRun_c _ _ _ _ wNq.ns wNq.inp wNq.ss _ _ ([⟨1, 0⟩, ⟨4, 1⟩] : List Evt) 0 20 w (hs.ownRo (.there (.there .here))) (hs.ownRo (.there (.there (.there .here)))) (hs.ownRo .here) (by exact rowle_any hs .here)) kLq) ?_
  rintro ⟨ra115, rc116⟩
  refine Dr.back (fun _ hs => hF112 (.there (.there .here)) hs) ?_
  refine Dr.e (i := 6) rfl (by kernel_rfl) ?_
  refine Ops.cp en_39 rfl (fun w hs => at_c 17 0 w) ?_
  refine Dr.back (fun _ hs => hF112 (.there (.there .here)) hs) ?_
  refine Dr.e (i := 7) rfl (by kernel_rfl) ?_
  refine Ops.lit [.int .i64 17, .int .i64 0] el_27 zsb_88 rfl rfl ⟨by decide, by decide⟩ rfl ?_
  intro b117
  refine Dr.back (fun _ hs => hF112 (.there (.there (.there .here))) hs) ?_
  refine Dr.e (i := 8) rfl (by kernel_rfl) ?_
  refine Ops.cp en_20 rfl (fun w hs => dT (events_c _ _ _ _ ([⟨17, 0⟩] : List Evt) ([⟨17, 0⟩] : List Evt) w (hs.ownRo (.there .here)) (hs.ownRo .here) (by decide)) rfl) ?_
  refine Dr.back (fun _ hs => hF112 (.there (.there (.there .here))) hs) ?_
  refine Dr.tail 9 (by kernel_rfl) ?_
  refine Ops.sat ?_ (fun _ hs => hR113 (.there (.there (.there .here))) hs)
  refine Ops.q (q_asg rfl) ?_
  refine Ops.to rfl ?_
  refine Cd.rt (fn := Try.f13) [.bool true] (by with_reducible repeat (first | exact rq_here | apply rq_then | apply rq_block)) rfl ⟨rfl, trivial⟩ ?_
  intro w' hs'
  exact ⟨rfl, hs'.none⟩
end Go.Proofs.Ytilcdghliigngaa
namespace Go.Proofs.Ytilcdghliigngaa
open Go.RowKit Go.Proofs.YtilcdghliigngaaGl Go.Proofs.YtilcdghliigngaaPm
set_option linter.unusedVariables false
set_option linter.unusedSimpArgs false
def errN {α : Type} (r : Except Int α) : Int := match r with | .ok _ => 0 | .error c => c
def exL {α : Type} (r : Except Int (List α)) : List α := match r with | .ok xs => xs | .error _ => []
theorem retR_any {k : FuncId} {vs : Array Value} {r : Except Int NetP} {w : World} (h : Calls Try.prog k vs w (RetR r w)) :
    Calls Try.prog k vs w fun e w' => ∃ x : (Option Addr × Nat) × (Option Addr × Nat), e = .returned (.tuple #[.agg #[.slice x.1.1 (exN r).ns.length x.1.2, .int .i64 (exN r).inp, .slice x.2.1 (exN r).ss.length x.2.2], .int .i64 (errN r)]) ∧ Sat w w' [row x.1.1 x.1.2 116 8 (exN r).ns.length ((exN r).ns.flatMap ePrm), row x.2.1 x.2.2 126 4 (exN r).ss.length ((exN r).ss.flatMap eSyn)] := by
  cases r with
  | ok N => exact h.mono fun e w' h => by obtain ⟨p, q, h1, h2⟩ := h; exact ⟨(p, q), h1, h2⟩
  | error c => exact h.mono fun e w' h => ⟨((none, 0), (none, 0)), h.1, (h.2.nilRow 126 4).nilRow 116 8⟩
theorem retL_any {k : FuncId} {vs : Array Value} {r : Except Int (List Int)} {w : World} (h : Calls Try.prog k vs w (RetL r w)) :
    Calls Try.prog k vs w fun e w' => ∃ p : Option Addr × Nat, e = .returned (.tuple #[.slice p.1 (exL r).length p.2, .int .i64 (errN r)]) ∧ Sat w w' [row p.1 p.2 3 1 (exL r).length ((exL r).flatMap eInt)] := by
  cases r with
  | ok N => exact h
  | error c => exact h.mono fun e w' h => ⟨(none, 0), h.1, h.2.nilRow 3 1⟩
theorem retE_any {k : FuncId} {vs : Array Value} {r : Except Int (List Evt)} {w : World} (h : Calls Try.prog k vs w (RetE r w)) :
    Calls Try.prog k vs w fun e w' => ∃ p : Option Addr × Nat, e = .returned (.tuple #[.slice p.1 (exL r).length p.2, .int .i64 (errN r)]) ∧ Sat w w' [row p.1 p.2 88 2 (exL r).length ((exL r).flatMap eEvt)] := by
  cases r with
  | ok N => exact h
  | error c => exact h.mono fun e w' h => ⟨(none, 0), h.1, h.2.nilRow 88 2⟩
theorem rowmax {w0 w : World} {A R : List Atom} {a : Option Addr} {cap sz m : Nat} {E : TypeId} {cs : List Value} (h : Sat w0 w A) (hp : Pull A (row a cap E sz m cs) R) : m ≤ 9223372036854775807 := by
  obtain ⟨hlen, hown⟩ := h.own hp
  rcases hown with ⟨h0, h00⟩ | ⟨b', cap', cur, hv0, _, hh, h2, h3, h4, h5⟩
  · omega
  · cases hv0; simp only [maxLen] at h3; omega
end Go.Proofs.Ytilcdghliigngaa
namespace Go.Proofs.Ytilcdghliigngaa
open Go.RowKit Go.Proofs.YtilcdghliigngaaGl Go.Proofs.YtilcdghliigngaaPm
set_option linter.unusedVariables false
set_option linter.unusedSimpArgs false
theorem machine_z {na : Option Addr} {nc : Nat} {lz : List NL} {st : Int} {aa : Option Addr} {ac : Nat} {acc : List Bool} {w : World} {X : List (List Int)} (hz : lz.map (fun l : NL => l.2) = X) (hL : RoLL w na lz) (hA : RoL w aa eBool acc) : Calls Try.prog 14 [.agg [.slice na lz.length nc, .int .i64 st, .slice aa acc.length ac].toArray].toArray w (RetR (machineP X st acc) w) := by
  subst hz; exact machine_c na nc lz st aa ac acc w hL hA
theorem word_z {na : Option Addr} {nc : Nat} {lz : List NL} {st : Int} {aa : Option Addr} {al ac : Nat} {wa : Option Addr} {wc : Nat} {ws : List Int} {w : World} {X : List (List Int)} (hz : lz.map (fun l : NL => l.2) = X) (hL : RoLL w na lz) (hW : RoL w wa eInt ws) : Calls Try.prog 18 [.agg [.slice na lz.length nc, .int .i64 st, .slice aa al ac].toArray, .slice wa ws.length wc].toArray w (RetE (wordP X st al ws) w) := by
  subst hz; exact word_c na nc lz st aa al ac wa wc ws w hL hW
theorem states_z {na : Option Addr} {nc : Nat} {lz : List NL} {st : Int} {aa : Option Addr} {al ac : Nat} {ea : Option Addr} {ec : Nat} {evs : List Evt} {w : World} {X : List (List Int)} (hz : lz.map (fun l : NL => l.2) = X) (hL : RoLL w na lz) (hE : RoL w ea eEvt evs) (hel : evs.length ≤ 1000000) : Calls Try.prog 21 [.agg [.slice na lz.length nc, .int .i64 st, .slice aa al ac].toArray, .slice ea evs.length ec].toArray w (RetL (statesP X st al evs) w) := by
  subst hz; exact states_c na nc lz st aa al ac ea ec evs w hL hE hel
theorem machines_c (na : Option Addr) (nc : Nat) (ls : List NL) (st : Int) (aa : Option Addr) (ac : Nat) (acc : List Bool) (wa : Option Addr) (wc : Nat) (ws : List Int) (ea : Option Addr) (ec : Nat) (evs : List Evt) (n : Int) (w : World) (hL : RoLL w na ls) (hA : RoL w aa eBool acc) (hW : RoL w wa eInt ws) (hE : RoL w ea eEvt evs) : Calls Try.prog 3 [.agg [.slice na ls.length nc, .int .i64 st, .slice aa acc.length ac].toArray, .slice wa ws.length wc, .slice ea evs.length ec, .int .i64 n].toArray w fun e w' => e = .returned (.bool true) ∧ Sat w w' [] := by
  refine fstart Try.func3 rfl rfl (Sat.nil w) ?_
  refine Cd.seq ?_
  refine Cd.region ?_
  refine Ops.box [.slice na ls.length nc, .int .i64 st, .slice aa acc.length ac] rfl rfl ?_
  intro b1
  refine Ops.q (q_asg rfl) ?_
  refine Ops.to rfl ?_
  refine Cd.seq ?_
  refine Cd.seq ?_
  refine Cd.region ?_
  refine Ops.q (q_fa fo_25_0 rfl) ?_
  refine Ops.q (q_ldB isA_22 rfl .here rfl) ?_
  refine Ops.q (q_len esz_22 rfl) ?_
  by_cases h2 : 40 < (ls.length : Int)
  · refine Ops.q (q_cmp rfl rfl (c_gt h2)) ?_
    refine Ops.q (q_mv rfl) ?_
    refine Ops.sk ?_
    refine Ops.sk ?_
    refine Ops.sk ?_
    refine Ops.sk ?_
    refine Ops.q (q_pickT rfl rfl) ?_
    refine Ops.q (q_mv rfl) ?_
    refine Ops.sk ?_
    refine Ops.sk ?_
    refine Ops.sk ?_
    refine Ops.sk ?_
    refine Ops.sk ?_
    refine Ops.sk ?_
    refine Ops.sk ?_
    refine Ops.sk ?_
    refine Ops.q (q_pickT rfl rfl) ?_
    refine Ops.q (q_mv rfl) ?_
    refine Ops.sk ?_
    refine Ops.sk ?_
    refine Ops.sk ?_
    refine Ops.q (q_pickT rfl rfl) ?_
    refine Ops.q (q_mv rfl) ?_
    refine Ops.sk ?_
    refine Ops.sk ?_
    refine Ops.sk ?_
    refine Ops.q (q_pickT rfl rfl) ?_
    refine Ops.to rfl ?_
    refine Cd.cond_t rfl ?_
    refine Cd.seq ?_
    refine Cd.region ?_
    refine Ops.cp en_13 rfl (fun w hs => works_c w) ?_
    refine Ops.q (q_asg rfl) ?_
    refine Ops.to rfl ?_
    refine Cd.rt (fn := Try.f3) [.bool true] (by with_reducible repeat (first | exact rq_here | apply rq_then | apply rq_block)) rfl ⟨rfl, trivial⟩ ?_
    intro w' hs'
    exact ⟨rfl, hs'.none⟩
  · refine Ops.q (q_cmp rfl rfl (c_ngt (by omega))) ?_
    refine Ops.q (q_mv rfl) ?_
    refine Ops.q (q_fa fo_25_2 rfl) ?_
    refine Ops.q (q_ldB isA_23 rfl .here rfl) ?_
    refine Ops.q (q_len esz_23 rfl) ?_
    by_cases h3 : 50 < (acc.length : Int)
    · refine Ops.q (q_cmp rfl rfl (c_gt h3)) ?_
      refine Ops.q (q_pickF rfl rfl) ?_
      refine Ops.q (q_mv rfl) ?_
      refine Ops.sk ?_
      refine Ops.sk ?_
      refine Ops.sk ?_
      refine Ops.sk ?_
      refine Ops.sk ?_
      refine Ops.sk ?_
      refine Ops.sk ?_
      refine Ops.sk ?_
      refine Ops.q (q_pickT rfl rfl) ?_
      refine Ops.q (q_mv rfl) ?_
      refine Ops.sk ?_
      refine Ops.sk ?_
      refine Ops.sk ?_
      refine Ops.q (q_pickT rfl rfl) ?_
      refine Ops.q (q_mv rfl) ?_
      refine Ops.sk ?_
      refine Ops.sk ?_
      refine Ops.sk ?_
      refine Ops.q (q_pickT rfl rfl) ?_
      refine Ops.to rfl ?_
      refine Cd.cond_t rfl ?_
      refine Cd.seq ?_
      refine Cd.region ?_
      refine Ops.cp en_13 rfl (fun w hs => works_c w) ?_
      refine Ops.q (q_asg rfl) ?_
      refine Ops.to rfl ?_
      refine Cd.rt (fn := Try.f3) [.bool true] (by with_reducible repeat (first | exact rq_here | apply rq_then | apply rq_block)) rfl ⟨rfl, trivial⟩ ?_
      intro w' hs'
      exact ⟨rfl, hs'.none⟩
    · refine Ops.q (q_cmp rfl rfl (c_ngt (by omega))) ?_
      refine Ops.q (q_pickF rfl rfl) ?_
      refine Ops.q (q_mv rfl) ?_
      refine Ops.q (q_mv rfl) ?_
      refine Ops.q (q_len esz_26 rfl) ?_
      by_cases h4 : 100 < (ws.length : Int)
      · refine Ops.q (q_cmp rfl rfl (c_gt h4)) ?_
        refine Ops.q (q_mv rfl) ?_
        refine Ops.q (q_mv rfl) ?_
        refine Ops.q (q_len esz_26 rfl) ?_
        by_cases h5 : (ws.length : Int) ≤ 3000
        · refine Ops.q (q_cmp rfl rfl (c_le h5)) ?_
          refine Ops.q (q_pickT rfl rfl) ?_
          refine Ops.q (q_pickF rfl rfl) ?_
          refine Ops.q (q_mv rfl) ?_
          refine Ops.sk ?_
          refine Ops.sk ?_
          refine Ops.sk ?_
          refine Ops.q (q_pickT rfl rfl) ?_
          refine Ops.q (q_mv rfl) ?_
          refine Ops.sk ?_
          refine Ops.sk ?_
          refine Ops.sk ?_
          refine Ops.q (q_pickT rfl rfl) ?_
          refine Ops.to rfl ?_
          refine Cd.cond_t rfl ?_
          refine Cd.seq ?_
          refine Cd.region ?_
          refine Ops.cp en_13 rfl (fun w hs => works_c w) ?_
          refine Ops.q (q_asg rfl) ?_
          refine Ops.to rfl ?_
          refine Cd.rt (fn := Try.f3) [.bool true] (by with_reducible repeat (first | exact rq_here | apply rq_then | apply rq_block)) rfl ⟨rfl, trivial⟩ ?_
          intro w' hs'
          exact ⟨rfl, hs'.none⟩
        · refine Ops.q (q_cmp rfl rfl (c_nle (by omega))) ?_
          refine Ops.q (q_pickT rfl rfl) ?_
          refine Ops.q (q_pickF rfl rfl) ?_
          refine Ops.q (q_mv rfl) ?_
          refine Ops.q (q_mv rfl) ?_
          refine Ops.q (q_len esz_26 rfl) ?_
          by_cases h6 : 3010 < (ws.length : Int)
          · refine Ops.q (q_cmp rfl rfl (c_gt h6)) ?_
            refine Ops.q (q_pickF rfl rfl) ?_
            refine Ops.q (q_mv rfl) ?_
            refine Ops.sk ?_
            refine Ops.sk ?_
            refine Ops.sk ?_
            refine Ops.q (q_pickT rfl rfl) ?_
            refine Ops.to rfl ?_
            refine Cd.cond_t rfl ?_
            refine Cd.seq ?_
            refine Cd.region ?_
            refine Ops.cp en_13 rfl (fun w hs => works_c w) ?_
            refine Ops.q (q_asg rfl) ?_
            refine Ops.to rfl ?_
            refine Cd.rt (fn := Try.f3) [.bool true] (by with_reducible repeat (first | exact rq_here | apply rq_then | apply rq_block)) rfl ⟨rfl, trivial⟩ ?_
            intro w' hs'
            exact ⟨rfl, hs'.none⟩
          · refine Ops.q (q_cmp rfl rfl (c_ngt (by omega))) ?_
            refine Ops.q (q_pickF rfl rfl) ?_
            refine Ops.q (q_mv rfl) ?_
            refine Ops.q (q_mv rfl) ?_
            refine Ops.q (q_len esz_27 rfl) ?_
            by_cases h7 : 200 < (evs.length : Int)
            · refine Ops.q (q_cmp rfl rfl (c_gt h7)) ?_
              refine Ops.q (q_pickF rfl rfl) ?_
              refine Ops.to rfl ?_
              refine Cd.cond_t rfl ?_
              refine Cd.seq ?_
              refine Cd.region ?_
              refine Ops.cp en_13 rfl (fun w hs => works_c w) ?_
              refine Ops.q (q_asg rfl) ?_
              refine Ops.to rfl ?_
              refine Cd.rt (fn := Try.f3) [.bool true] (by with_reducible repeat (first | exact rq_here | apply rq_then | apply rq_block)) rfl ⟨rfl, trivial⟩ ?_
              intro w' hs'
              exact ⟨rfl, hs'.none⟩
            · refine Ops.q (q_cmp rfl rfl (c_ngt (by omega))) ?_
              refine Ops.q (q_pickF rfl rfl) ?_
              refine Ops.to rfl ?_
              refine Cd.cond_f rfl ?_
              refine Cd.skipTo rfl ?_
              refine Cd.seq ?_
              refine Cd.seq ?_
              refine Cd.region ?_
              refine Ops.q (q_asg rfl) ?_
              refine Ops.to rfl ?_
              refine Cd.block ?_
              refine Cd.lp (σ := Nat) (fun k => k ≤ ls.length ∧ ∀ y ∈ ls.take k, y.2.length ≤ 20) (fun k => [(1, .slice wa ws.length wc), (2, .slice ea evs.length ec), (3, .int .i64 n), (4, .pointer (some ⟨b1, 0, none⟩)), (9, .int .i64 (k : Int))]) (fun k => [blk b1 25 [.slice na ls.length nc, .int .i64 st, .slice aa acc.length ac]]) (fun k => ls.length - k) 0 ⟨Nat.zero_le _, by simp⟩ ⟨rfl, rfl, rfl, rfl, rfl, trivial⟩ (fun _ hs => hs) ?_
              intro k hI
              have hI1 := hI.1
              refine Cd.seq ?_
              refine Cd.seq ?_
              refine Cd.region ?_
              refine Ops.q (q_mv rfl) ?_
              refine Ops.q (q_fa fo_25_0 rfl) ?_
              refine Ops.q (q_ldB isA_22 rfl .here rfl) ?_
              refine Ops.q (q_len esz_22 rfl) ?_
              by_cases hk : (k : Int) < (ls.length : Int)
              · refine Ops.q (q_cmp rfl rfl (c_lt hk)) ?_
                obtain ⟨x8, hx9⟩ : ∃ x, ls[k]? = some x := ⟨_, List.getElem?_eq_getElem (by omega)⟩
                obtain ⟨ab10, ao11, rfl⟩ := RoL.pos hL.1 eNL_len hx9
                refine Ops.to rfl ?_
                refine Cd.cond_t rfl ?_
                refine Cd.skipTo rfl ?_
                refine Cd.seq ?_
                refine Cd.block ?_
                refine Cd.seq ?_
                refine Cd.region ?_
                refine Ops.q (q_fa fo_25_0 rfl) ?_
                refine Ops.q (q_ldB isA_22 rfl .here rfl) ?_
                refine Ops.q (q_mv rfl) ?_
                refine Ops.q (q_ix (k := k) esz_22 rfl rfl (by omega)) ?_
                refine Ops.q (q_ldR isA_26 rfl (hL.1.at0 eNL_len hx9 rfl)) ?_
                refine Ops.q (q_len esz_26 rfl) ?_
                by_cases h12 : 20 < (x8.2.length : Int)
                · refine Ops.q (q_cmp rfl rfl (c_gt h12)) ?_
                  refine Ops.to rfl ?_
                  refine Cd.cond_t rfl ?_
                  refine Cd.seq ?_
                  refine Cd.region ?_
                  refine Ops.cp en_13 rfl (fun w hs => works_c w) ?_
                  refine Ops.q (q_asg rfl) ?_
                  refine Ops.to rfl ?_
                  refine Cd.rt (fn := Try.f3) [.bool true] (by with_reducible repeat (first | exact rq_here | apply rq_then | apply rq_block)) rfl ⟨rfl, trivial⟩ ?_
                  intro w' hs'
                  exact ⟨rfl, hs'.none⟩
                · refine Ops.q (q_cmp rfl rfl (c_ngt (by omega))) ?_
                  refine Ops.to rfl ?_
                  refine Cd.cond_f rfl ?_
                  refine Cd.skipTo rfl ?_
                  refine Cd.region ?_
                  refine Ops.q (q_mv rfl) ?_
                  refine Ops.q (q_ar rfl rfl (a_inc (by omega))) ?_
                  refine Ops.q (q_asg rfl) ?_
                  refine Ops.rnd (k + 1) rfl (⟨by omega, by intro y hy; rw [List.take_add_one, hx9] at hy; rcases List.mem_append.1 hy with hy | hy; exact hI.2 y hy; obtain rfl := List.mem_singleton.1 hy; omega⟩) (by omega) ⟨rfl, rfl, rfl, rfl, rfl, trivial⟩ (fun _ hs => hs) 
              · refine Ops.q (q_cmp rfl rfl (c_nlt (by omega))) ?_
                have h20 : ∀ l ∈ ls, l.2.length ≤ 20 := by have := hI.2; rwa [List.take_of_length_le (show ls.length ≤ k by omega)] at this
                refine Ops.to rfl ?_
                refine Cd.cond_f rfl ?_
                refine Cd.exitTo rfl ?_
                refine Cd.seq ?_
                refine Cd.region ?_
                refine Ops.q (q_ldBN [.slice na ls.length nc, .int .i64 st, .slice aa acc.length ac] isA_25 sz_25 rfl .here rfl) ?_
                refine Ops.cl (α := AutoR ls) (v := fun r => .agg [.slice r.1.1.1 r.1.2.1.length r.1.1.2, .int .i64 st, .slice r.1.2.2.1 acc.length r.1.2.2.2].toArray) (B := fun r => [rd (fun w => RoLL w r.1.1.1 r.1.2.1 ∧ RoL w r.1.2.2.1 eBool acc)]) en_15 rfl (fun w hs => autocopy_c _ _ ls st _ _ acc w (hL.later hs.below) (hA.later hs.below) (by omega) (fun l hl => Nat.le_trans (h20 l hl) (by decide)) (by omega)) ?_
                rintro ⟨⟨⟨xa13, xc14⟩, lz15, ⟨ya16, yc17⟩⟩, hz18⟩
                refine Ops.cl (α := (Option Addr × Nat) × (Option Addr × Nat)) (v := fun x => .tuple #[.agg #[.slice x.1.1 (exN (machineP (ls.map (fun l : NL => l.2)) st acc)).ns.length x.1.2, .int .i64 (exN (machineP (ls.map (fun l : NL => l.2)) st acc)).inp, .slice x.2.1 (exN (machineP (ls.map (fun l : NL => l.2)) st acc)).ss.length x.2.2], .int .i64 (errN (machineP (ls.map (fun l : NL => l.2)) st acc))]) (B := fun x => [row x.1.1 x.1.2 116 8 (exN (machineP (ls.map (fun l : NL => l.2)) st acc)).ns.length ((exN (machineP (ls.map (fun l : NL => l.2)) st acc)).ns.flatMap ePrm), row x.2.1 x.2.2 126 4 (exN (machineP (ls.map (fun l : NL => l.2)) st acc)).ss.length ((exN (machineP (ls.map (fun l : NL => l.2)) st acc)).ss.flatMap eSyn)]) en_14 rfl (fun w hs => retR_any (machine_z hz18 (hs.read .here).1 (hs.read .here).2)) ?_
                rintro ⟨⟨p19, pc20⟩, ⟨q21, qc22⟩⟩
                refine Ops.q (q_mv rfl) ?_
                refine Ops.q (q_ext rfl rfl) ?_
                refine Ops.q (q_ext rfl rfl) ?_
                refine Ops.alc [.slice none 0 0, .int .i64 0, .slice none 0 0] zc_32 ?_
                intro b23
                refine Ops.stB [.slice p19 ((exN (machineP (ls.map (fun l : NL => l.2)) st acc)).ns.length) pc20, .int .i64 ((exN (machineP (ls.map (fun l : NL => l.2)) st acc)).inp), .slice q21 ((exN (machineP (ls.map (fun l : NL => l.2)) st acc)).ss.length) qc22] [.slice p19 ((exN (machineP (ls.map (fun l : NL => l.2)) st acc)).ns.length) pc20, .int .i64 ((exN (machineP (ls.map (fun l : NL => l.2)) st acc)).inp), .slice q21 ((exN (machineP (ls.map (fun l : NL => l.2)) st acc)).ss.length) qc22] sz_32 rfl rfl rfl (one rfl) .here rfl rfl ?_
                refine Ops.q (q_asg rfl) ?_
                refine Ops.to rfl ?_
                refine Cd.seq ?_
                refine Cd.region ?_
                refine Ops.q (q_ldBN [.slice na ls.length nc, .int .i64 st, .slice aa acc.length ac] isA_25 sz_25 rfl (.there (.there (.there (.there .here)))) rfl) ?_
                refine Ops.cl (α := (Option Addr × Nat) × (Option Addr × Nat)) (v := fun x => .tuple #[.agg #[.slice x.1.1 (exN (machineP (ls.map (fun l : NL => l.2)) st acc)).ns.length x.1.2, .int .i64 (exN (machineP (ls.map (fun l : NL => l.2)) st acc)).inp, .slice x.2.1 (exN (machineP (ls.map (fun l : NL => l.2)) st acc)).ss.length x.2.2], .int .i64 (errN (machineP (ls.map (fun l : NL => l.2)) st acc))]) (B := fun x => [row x.1.1 x.1.2 116 8 (exN (machineP (ls.map (fun l : NL => l.2)) st acc)).ns.length ((exN (machineP (ls.map (fun l : NL => l.2)) st acc)).ns.flatMap ePrm), row x.2.1 x.2.2 126 4 (exN (machineP (ls.map (fun l : NL => l.2)) st acc)).ss.length ((exN (machineP (ls.map (fun l : NL => l.2)) st acc)).ss.flatMap eSyn)]) en_16 rfl (fun w hs => retR_any (rmachine_c _ _ ls st _ _ acc w (hL.later hs.below) (hA.later hs.below))) ?_
                rintro ⟨⟨p24, pc25⟩, ⟨q26, qc27⟩⟩
                refine Ops.q (q_mv rfl) ?_
                refine Ops.q (q_ext rfl rfl) ?_
                refine Ops.q (q_ext rfl rfl) ?_
                refine Ops.alc [.slice none 0 0, .int .i64 0, .slice none 0 0] zc_32 ?_
                intro b28
                refine Ops.stB [.slice p24 ((exN (machineP (ls.map (fun l : NL => l.2)) st acc)).ns.length) pc25, .int .i64 ((exN (machineP (ls.map (fun l : NL => l.2)) st acc)).inp), .slice q26 ((exN (machineP (ls.map (fun l : NL => l.2)) st acc)).ss.length) qc27] [.slice p24 ((exN (machineP (ls.map (fun l : NL => l.2)) st acc)).ns.length) pc25, .int .i64 ((exN (machineP (ls.map (fun l : NL => l.2)) st acc)).inp), .slice q26 ((exN (machineP (ls.map (fun l : NL => l.2)) st acc)).ss.length) qc27] sz_32 rfl rfl rfl (one rfl) .here rfl rfl ?_
                refine Ops.q (q_asg rfl) ?_
                refine Ops.to rfl ?_
                refine Cd.seq ?_
                refine Cd.seq ?_
                refine Cd.region ?_
                refine Ops.q (q_ldBN [.slice p19 ((exN (machineP (ls.map (fun l : NL => l.2)) st acc)).ns.length) pc20, .int .i64 ((exN (machineP (ls.map (fun l : NL => l.2)) st acc)).inp), .slice q21 ((exN (machineP (ls.map (fun l : NL => l.2)) st acc)).ss.length) qc22] isA_32 sz_32 rfl (.there (.there (.there .here))) rfl) ?_
                refine Ops.q (q_ldBN [.slice p24 ((exN (machineP (ls.map (fun l : NL => l.2)) st acc)).ns.length) pc25, .int .i64 ((exN (machineP (ls.map (fun l : NL => l.2)) st acc)).inp), .slice q26 ((exN (machineP (ls.map (fun l : NL => l.2)) st acc)).ss.length) qc27] isA_32 sz_32 rfl .here rfl) ?_
                refine Ops.cp en_17 rfl (fun w hs => dT (nets_c _ _ _ _ _ _ _ _ (exN (machineP (ls.map (fun l : NL => l.2)) st acc)).ns (exN (machineP (ls.map (fun l : NL => l.2)) st acc)).ns ((exN (machineP (ls.map (fun l : NL => l.2)) st acc)).inp) ((exN (machineP (ls.map (fun l : NL => l.2)) st acc)).inp) (exN (machineP (ls.map (fun l : NL => l.2)) st acc)).ss (exN (machineP (ls.map (fun l : NL => l.2)) st acc)).ss w (hs.ownRo (.there (.there (.there (.there .here))))) (hs.ownRo (.there .here)) (hs.ownRo (.there (.there (.there (.there (.there .here)))))) (hs.ownRo (.there (.there .here))) (rowmax hs (.there (.there (.there (.there .here))))) (rowmax hs (.there (.there (.there (.there (.there .here))))))) ⟨rfl, rfl, rfl⟩) ?_
                refine Ops.q (q_not rfl) ?_
                refine Ops.q (q_mv rfl) ?_
                refine Ops.q (q_mv rfl) ?_
                refine Ops.q (q_mv rfl) ?_
                refine Ops.q (q_cmp rfl rfl (c_nne rfl)) ?_
                refine Ops.q (q_pickF rfl rfl) ?_
                refine Ops.to rfl ?_
                refine Cd.cond_f rfl ?_
                refine Cd.skipTo rfl ?_
                refine Cd.seq ?_
                refine Cd.region ?_
                refine Ops.q (q_ldBN [.slice na ls.length nc, .int .i64 st, .slice aa acc.length ac] isA_25 sz_25 rfl (.there (.there (.there (.there (.there (.there (.there .here))))))) rfl) ?_
                refine Ops.cl (α := AutoR ls) (v := fun r => .agg [.slice r.1.1.1 r.1.2.1.length r.1.1.2, .int .i64 st, .slice r.1.2.2.1 acc.length r.1.2.2.2].toArray) (B := fun r => [rd (fun w => RoLL w r.1.1.1 r.1.2.1 ∧ RoL w r.1.2.2.1 eBool acc)]) en_15 rfl (fun w hs => autocopy_c _ _ ls st _ _ acc w (hL.later hs.below) (hA.later hs.below) (by omega) (fun l hl => Nat.le_trans (h20 l hl) (by decide)) (by omega)) ?_
                rintro ⟨⟨⟨xa29, xc30⟩, lz31, ⟨ya32, yc33⟩⟩, hz34⟩
                refine Ops.q (q_mv rfl) ?_
                refine Ops.cl (α := Option Addr × Nat) (v := fun p => .tuple #[.slice p.1 (exL (wordP (ls.map (fun l : NL => l.2)) st acc.length ws)).length p.2, .int .i64 (errN (wordP (ls.map (fun l : NL => l.2)) st acc.length ws))]) (B := fun p => [row p.1 p.2 88 2 ((exL (wordP (ls.map (fun l : NL => l.2)) st acc.length ws)).length) ((exL (wordP (ls.map (fun l : NL => l.2)) st acc.length ws)).flatMap eEvt)]) en_18 rfl (fun w hs => retE_any (word_z hz34 (hs.read .here).1 (hW.later hs.below))) ?_
                rintro ⟨la35, lc36⟩
                refine Ops.q (q_mv rfl) ?_
                refine Ops.q (q_ext rfl rfl) ?_
                refine Ops.q (q_ext rfl rfl) ?_
                refine Ops.q (q_asg rfl) ?_
                refine Ops.q (q_asg rfl) ?_
                refine Ops.to rfl ?_
                refine Cd.seq ?_
                refine Cd.region ?_
                refine Ops.q (q_ldBN [.slice na ls.length nc, .int .i64 st, .slice aa acc.length ac] isA_25 sz_25 rfl (.there (.there (.there (.there (.there (.there (.there (.there (.there .here))))))))) rfl) ?_
                refine Ops.q (q_mv rfl) ?_
                refine Ops.cl (α := Option Addr × Nat) (v := fun p => .tuple #[.slice p.1 (exL (wordP (ls.map (fun l : NL => l.2)) st acc.length ws)).length p.2, .int .i64 (errN (wordP (ls.map (fun l : NL => l.2)) st acc.length ws))]) (B := fun p => [row p.1 p.2 88 2 ((exL (wordP (ls.map (fun l : NL => l.2)) st acc.length ws)).length) ((exL (wordP (ls.map (fun l : NL => l.2)) st acc.length ws)).flatMap eEvt)]) en_19 rfl (fun w hs => retE_any (rword_c _ _ ls st _ acc.length _ _ _ ws w (hL.later hs.below) (hW.later hs.below))) ?_
                rintro ⟨la37, lc38⟩
                refine Ops.q (q_mv rfl) ?_
                refine Ops.q (q_ext rfl rfl) ?_
                refine Ops.q (q_ext rfl rfl) ?_
                refine Ops.q (q_asg rfl) ?_
                refine Ops.q (q_asg rfl) ?_
                refine Ops.to rfl ?_
                refine Cd.seq ?_
                refine Cd.seq ?_
                refine Cd.region ?_
                refine Ops.q (q_mv rfl) ?_
                refine Ops.q (q_mv rfl) ?_
                refine Ops.cp en_20 rfl (fun w hs => dT (events_c _ _ _ _ (exL (wordP (ls.map (fun l : NL => l.2)) st acc.length ws)) (exL (wordP (ls.map (fun l : NL => l.2)) st acc.length ws)) w (hs.ownRo (.there .here)) (hs.ownRo .here) (rowmax hs (.there .here))) rfl) ?_
                refine Ops.q (q_not rfl) ?_
                refine Ops.q (q_mv rfl) ?_
                refine Ops.q (q_mv rfl) ?_
                refine Ops.q (q_mv rfl) ?_
                refine Ops.q (q_cmp rfl rfl (c_nne rfl)) ?_
                refine Ops.q (q_pickF rfl rfl) ?_
                refine Ops.to rfl ?_
                refine Cd.cond_f rfl ?_
                refine Cd.skipTo rfl ?_
                refine Cd.seq ?_
                refine Cd.region ?_
                refine Ops.q (q_ldBN [.slice na ls.length nc, .int .i64 st, .slice aa acc.length ac] isA_25 sz_25 rfl (.there (.there (.there (.there (.there (.there (.there (.there (.there (.there .here)))))))))) rfl) ?_
                refine Ops.cl (α := AutoR ls) (v := fun r => .agg [.slice r.1.1.1 r.1.2.1.length r.1.1.2, .int .i64 st, .slice r.1.2.2.1 acc.length r.1.2.2.2].toArray) (B := fun r => [rd (fun w => RoLL w r.1.1.1 r.1.2.1 ∧ RoL w r.1.2.2.1 eBool acc)]) en_15 rfl (fun w hs => autocopy_c _ _ ls st _ _ acc w (hL.later hs.below) (hA.later hs.below) (by omega) (fun l hl => Nat.le_trans (h20 l hl) (by decide)) (by omega)) ?_
                rintro ⟨⟨⟨xa39, xc40⟩, lz41, ⟨ya42, yc43⟩⟩, hz44⟩
                refine Ops.q (q_mv rfl) ?_
                refine Ops.cl (α := Option Addr × Nat) (v := fun p => .tuple #[.slice p.1 (exL (statesP (ls.map (fun l : NL => l.2)) st acc.length evs)).length p.2, .int .i64 (errN (statesP (ls.map (fun l : NL => l.2)) st acc.length evs))]) (B := fun p => [row p.1 p.2 3 1 ((exL (statesP (ls.map (fun l : NL => l.2)) st acc.length evs)).length) ((exL (statesP (ls.map (fun l : NL => l.2)) st acc.length evs)).flatMap eInt)]) en_21 rfl (fun w hs => retL_any (states_z hz44 (hs.read .here).1 (hE.later hs.below) (by omega))) ?_
                rintro ⟨la45, lc46⟩
                refine Ops.q (q_mv rfl) ?_
                refine Ops.q (q_ext rfl rfl) ?_
                refine Ops.q (q_ext rfl rfl) ?_
                refine Ops.q (q_asg rfl) ?_
                refine Ops.q (q_asg rfl) ?_
                refine Ops.to rfl ?_
                refine Cd.seq ?_
                refine Cd.region ?_
                refine Ops.q (q_ldBN [.slice na ls.length nc, .int .i64 st, .slice aa acc.length ac] isA_25 sz_25 rfl (.there (.there (.there (.there (.there (.there (.there (.there (.there (.there (.there (.there .here)))))))))))) rfl) ?_
                refine Ops.q (q_mv rfl) ?_
                refine Ops.cl (α := Option Addr × Nat) (v := fun p => .tuple #[.slice p.1 (exL (statesP (ls.map (fun l : NL => l.2)) st acc.length evs)).length p.2, .int .i64 (errN (statesP (ls.map (fun l : NL => l.2)) st acc.length evs))]) (B := fun p => [row p.1 p.2 3 1 ((exL (statesP (ls.map (fun l : NL => l.2)) st acc.length evs)).length) ((exL (statesP (ls.map (fun l : NL => l.2)) st acc.length evs)).flatMap eInt)]) en_22 rfl (fun w hs => retL_any (rstates_c _ _ ls st _ acc.length _ _ _ evs w (hL.later hs.below) (hE.later hs.below) (by omega))) ?_
                rintro ⟨la47, lc48⟩
                refine Ops.q (q_mv rfl) ?_
                refine Ops.q (q_ext rfl rfl) ?_
                refine Ops.q (q_ext rfl rfl) ?_
                refine Ops.q (q_asg rfl) ?_
                refine Ops.q (q_asg rfl) ?_
                refine Ops.to rfl ?_
                refine Cd.seq ?_
                refine Cd.seq ?_
                refine Cd.region ?_
                refine Ops.q (q_mv rfl) ?_
                refine Ops.q (q_mv rfl) ?_
                refine Ops.cp en_23 rfl (fun w hs => dT (numbers_c _ _ _ _ (exL (statesP (ls.map (fun l : NL => l.2)) st acc.length evs)) (exL (statesP (ls.map (fun l : NL => l.2)) st acc.length evs)) w (hs.ownRo (.there .here)) (hs.ownRo .here) (rowmax hs (.there .here))) rfl) ?_
                refine Ops.q (q_not rfl) ?_
                refine Ops.q (q_mv rfl) ?_
                refine Ops.q (q_mv rfl) ?_
                refine Ops.q (q_mv rfl) ?_
                refine Ops.q (q_cmp rfl rfl (c_nne rfl)) ?_
                refine Ops.q (q_pickF rfl rfl) ?_
                refine Ops.to rfl ?_
                refine Cd.cond_f rfl ?_
                refine Cd.skipTo rfl ?_
                refine Cd.seq ?_
                refine Cd.region ?_
                refine Ops.q (q_mv rfl) ?_
                refine Ops.cl (α := (Option Addr × Nat) × (Option Addr × Nat)) (v := fun x => .tuple #[.agg #[.slice x.1.1 (exN (sortP n)).ns.length x.1.2, .int .i64 (exN (sortP n)).inp, .slice x.2.1 (exN (sortP n)).ss.length x.2.2], .int .i64 (errN (sortP n))]) (B := fun x => [row x.1.1 x.1.2 116 8 (exN (sortP n)).ns.length ((exN (sortP n)).ns.flatMap ePrm), row x.2.1 x.2.2 126 4 (exN (sortP n)).ss.length ((exN (sortP n)).ss.flatMap eSyn)]) en_24 rfl (fun w hs => retR_any (sort_c n w)) ?_
                rintro ⟨⟨p49, pc50⟩, ⟨q51, qc52⟩⟩
                refine Ops.q (q_mv rfl) ?_
                refine Ops.q (q_ext rfl rfl) ?_
                refine Ops.q (q_ext rfl rfl) ?_
                refine Ops.stB [.slice p49 ((exN (sortP n)).ns.length) pc50, .int .i64 ((exN (sortP n)).inp), .slice q51 ((exN (sortP n)).ss.length) qc52] [.slice p49 ((exN (sortP n)).ns.length) pc50, .int .i64 ((exN (sortP n)).inp), .slice q51 ((exN (sortP n)).ss.length) qc52] sz_32 rfl rfl rfl (one rfl) (.there (.there (.there (.there (.there (.there (.there (.there (.there (.there (.there .here))))))))))) rfl rfl ?_
                refine Ops.q (q_asg rfl) ?_
                refine Ops.to rfl ?_
                refine Cd.seq ?_
                refine Cd.region ?_
                refine Ops.q (q_mv rfl) ?_
                refine Ops.cl (α := (Option Addr × Nat) × (Option Addr × Nat)) (v := fun x => .tuple #[.agg #[.slice x.1.1 (exN (sortP n)).ns.length x.1.2, .int .i64 (exN (sortP n)).inp, .slice x.2.1 (exN (sortP n)).ss.length x.2.2], .int .i64 (errN (sortP n))]) (B := fun x => [row x.1.1 x.1.2 116 8 (exN (sortP n)).ns.length ((exN (sortP n)).ns.flatMap ePrm), row x.2.1 x.2.2 126 4 (exN (sortP n)).ss.length ((exN (sortP n)).ss.flatMap eSyn)]) en_25 rfl (fun w hs => retR_any (rsort_c n w)) ?_
                rintro ⟨⟨p53, pc54⟩, ⟨q55, qc56⟩⟩
                refine Ops.q (q_mv rfl) ?_
                refine Ops.q (q_ext rfl rfl) ?_
                refine Ops.q (q_ext rfl rfl) ?_
                refine Ops.stB [.slice p53 ((exN (sortP n)).ns.length) pc54, .int .i64 ((exN (sortP n)).inp), .slice q55 ((exN (sortP n)).ss.length) qc56] [.slice p53 ((exN (sortP n)).ns.length) pc54, .int .i64 ((exN (sortP n)).inp), .slice q55 ((exN (sortP n)).ss.length) qc56] sz_32 rfl rfl rfl (one rfl) (.there (.there (.there (.there (.there (.there (.there (.there (.there (.there .here)))))))))) rfl rfl ?_
                refine Ops.q (q_asg rfl) ?_
                refine Ops.to rfl ?_
                refine Cd.seq ?_
                refine Cd.region ?_
                refine Ops.q (q_ldBN [.slice p49 ((exN (sortP n)).ns.length) pc50, .int .i64 ((exN (sortP n)).inp), .slice q51 ((exN (sortP n)).ss.length) qc52] isA_32 sz_32 rfl (.there (.there (.there (.there (.there (.there (.there (.there (.there (.there (.there (.there (.there .here))))))))))))) rfl) ?_
                refine Ops.q (q_ldBN [.slice p53 ((exN (sortP n)).ns.length) pc54, .int .i64 ((exN (sortP n)).inp), .slice q55 ((exN (sortP n)).ss.length) qc56] isA_32 sz_32 rfl (.there (.there (.there (.there (.there (.there (.there (.there (.there (.there .here)))))))))) rfl) ?_
                refine Ops.cp en_17 rfl (fun w hs => dT (nets_c _ _ _ _ _ _ _ _ (exN (sortP n)).ns (exN (sortP n)).ns ((exN (sortP n)).inp) ((exN (sortP n)).inp) (exN (sortP n)).ss (exN (sortP n)).ss w (hs.ownRo (.there (.there .here))) (hs.ownRo .here) (hs.ownRo (.there (.there (.there .here)))) (hs.ownRo (.there .here)) (rowmax hs (.there (.there .here))) (rowmax hs (.there (.there (.there .here))))) ⟨rfl, rfl, rfl⟩) ?_
                refine Ops.q (q_mv rfl) ?_
                refine Ops.q (q_mv rfl) ?_
                refine Ops.q (q_mv rfl) ?_
                refine Ops.q (q_cmp rfl rfl (c_eq rfl)) ?_
                refine Ops.q (q_pickT rfl rfl) ?_
                refine Ops.q (q_mv rfl) ?_
                refine Ops.cp en_13 rfl (fun w hs => works_c w) ?_
                refine Ops.q (q_pickT rfl rfl) ?_
                refine Ops.q (q_asg rfl) ?_
                refine Ops.to rfl ?_
                refine Cd.rt (fn := Try.f3) [.bool true] (by with_reducible repeat (first | exact rq_here | apply rq_then | apply rq_block)) rfl ⟨rfl, trivial⟩ ?_
                intro w' hs'
                exact ⟨rfl, hs'.none⟩
      · refine Ops.q (q_cmp rfl rfl (c_ngt (by omega))) ?_
        refine Ops.q (q_mv rfl) ?_
        refine Ops.sk ?_
        refine Ops.sk ?_
        refine Ops.sk ?_
        refine Ops.q (q_pickF rfl rfl) ?_
        refine Ops.q (q_pickF rfl rfl) ?_
        refine Ops.q (q_mv rfl) ?_
        refine Ops.q (q_mv rfl) ?_
        refine Ops.q (q_len esz_26 rfl) ?_
        by_cases h57 : 3010 < (ws.length : Int)
        · refine Ops.q (q_cmp rfl rfl (c_gt h57)) ?_
          refine Ops.q (q_pickF rfl rfl) ?_
          refine Ops.q (q_mv rfl) ?_
          refine Ops.sk ?_
          refine Ops.sk ?_
          refine Ops.sk ?_
          refine Ops.q (q_pickT rfl rfl) ?_
          refine Ops.to rfl ?_
          refine Cd.cond_t rfl ?_
          refine Cd.seq ?_
          refine Cd.region ?_
          refine Ops.cp en_13 rfl (fun w hs => works_c w) ?_
          refine Ops.q (q_asg rfl) ?_
          refine Ops.to rfl ?_
          refine Cd.rt (fn := Try.f3) [.bool true] (by with_reducible repeat (first | exact rq_here | apply rq_then | apply rq_block)) rfl ⟨rfl, trivial⟩ ?_
          intro w' hs'
          exact ⟨rfl, hs'.none⟩
        · refine Ops.q (q_cmp rfl rfl (c_ngt (by omega))) ?_
          refine Ops.q (q_pickF rfl rfl) ?_
          refine Ops.q (q_mv rfl) ?_
          refine Ops.q (q_mv rfl) ?_
          refine Ops.q (q_len esz_27 rfl) ?_
          by_cases h58 : 200 < (evs.length : Int)
          · refine Ops.q (q_cmp rfl rfl (c_gt h58)) ?_
            refine Ops.q (q_pickF rfl rfl) ?_
            refine Ops.to rfl ?_
            refine Cd.cond_t rfl ?_
            refine Cd.seq ?_
            refine Cd.region ?_
            refine Ops.cp en_13 rfl (fun w hs => works_c w) ?_
            refine Ops.q (q_asg rfl) ?_
            refine Ops.to rfl ?_
            refine Cd.rt (fn := Try.f3) [.bool true] (by with_reducible repeat (first | exact rq_here | apply rq_then | apply rq_block)) rfl ⟨rfl, trivial⟩ ?_
            intro w' hs'
            exact ⟨rfl, hs'.none⟩
          · refine Ops.q (q_cmp rfl rfl (c_ngt (by omega))) ?_
            refine Ops.q (q_pickF rfl rfl) ?_
            refine Ops.to rfl ?_
            refine Cd.cond_f rfl ?_
            refine Cd.skipTo rfl ?_
            refine Cd.seq ?_
            refine Cd.seq ?_
            refine Cd.region ?_
            refine Ops.q (q_asg rfl) ?_
            refine Ops.to rfl ?_
            refine Cd.block ?_
            refine Cd.lp (σ := Nat) (fun k => k ≤ ls.length ∧ ∀ y ∈ ls.take k, y.2.length ≤ 20) (fun k => [(1, .slice wa ws.length wc), (2, .slice ea evs.length ec), (3, .int .i64 n), (4, .pointer (some ⟨b1, 0, none⟩)), (9, .int .i64 (k : Int))]) (fun k => [blk b1 25 [.slice na ls.length nc, .int .i64 st, .slice aa acc.length ac]]) (fun k => ls.length - k) 0 ⟨Nat.zero_le _, by simp⟩ ⟨rfl, rfl, rfl, rfl, rfl, trivial⟩ (fun _ hs => hs) ?_
            intro k hI
            have hI1 := hI.1
            refine Cd.seq ?_
            refine Cd.seq ?_
            refine Cd.region ?_
            refine Ops.q (q_mv rfl) ?_
            refine Ops.q (q_fa fo_25_0 rfl) ?_
            refine Ops.q (q_ldB isA_22 rfl .here rfl) ?_
            refine Ops.q (q_len esz_22 rfl) ?_
            by_cases hk : (k : Int) < (ls.length : Int)
            · refine Ops.q (q_cmp rfl rfl (c_lt hk)) ?_
              obtain ⟨x59, hx60⟩ : ∃ x, ls[k]? = some x := ⟨_, List.getElem?_eq_getElem (by omega)⟩
              obtain ⟨ab61, ao62, rfl⟩ := RoL.pos hL.1 eNL_len hx60
              refine Ops.to rfl ?_
              refine Cd.cond_t rfl ?_
              refine Cd.skipTo rfl ?_
              refine Cd.seq ?_
              refine Cd.block ?_
              refine Cd.seq ?_
              refine Cd.region ?_
              refine Ops.q (q_fa fo_25_0 rfl) ?_
              refine Ops.q (q_ldB isA_22 rfl .here rfl) ?_
              refine Ops.q (q_mv rfl) ?_
              refine Ops.q (q_ix (k := k) esz_22 rfl rfl (by omega)) ?_
              refine Ops.q (q_ldR isA_26 rfl (hL.1.at0 eNL_len hx60 rfl)) ?_
              refine Ops.q (q_len esz_26 rfl) ?_
              by_cases h63 : 20 < (x59.2.length : Int)
              · refine Ops.q (q_cmp rfl rfl (c_gt h63)) ?_
                refine Ops.to rfl ?_
                refine Cd.cond_t rfl ?_
                refine Cd.seq ?_
                refine Cd.region ?_
                refine Ops.cp en_13 rfl (fun w hs => works_c w) ?_
                refine Ops.q (q_asg rfl) ?_
                refine Ops.to rfl ?_
                refine Cd.rt (fn := Try.f3) [.bool true] (by with_reducible repeat (first | exact rq_here | apply rq_then | apply rq_block)) rfl ⟨rfl, trivial⟩ ?_
                intro w' hs'
                exact ⟨rfl, hs'.none⟩
              · refine Ops.q (q_cmp rfl rfl (c_ngt (by omega))) ?_
                refine Ops.to rfl ?_
                refine Cd.cond_f rfl ?_
                refine Cd.skipTo rfl ?_
                refine Cd.region ?_
                refine Ops.q (q_mv rfl) ?_
                refine Ops.q (q_ar rfl rfl (a_inc (by omega))) ?_
                refine Ops.q (q_asg rfl) ?_
                refine Ops.rnd (k + 1) rfl (⟨by omega, by intro y hy; rw [List.take_add_one, hx60] at hy; rcases List.mem_append.1 hy with hy | hy; exact hI.2 y hy; obtain rfl := List.mem_singleton.1 hy; omega⟩) (by omega) ⟨rfl, rfl, rfl, rfl, rfl, trivial⟩ (fun _ hs => hs) 
            · refine Ops.q (q_cmp rfl rfl (c_nlt (by omega))) ?_
              have h20 : ∀ l ∈ ls, l.2.length ≤ 20 := by have := hI.2; rwa [List.take_of_length_le (show ls.length ≤ k by omega)] at this
              refine Ops.to rfl ?_
              refine Cd.cond_f rfl ?_
              refine Cd.exitTo rfl ?_
              refine Cd.seq ?_
              refine Cd.region ?_
              refine Ops.q (q_ldBN [.slice na ls.length nc, .int .i64 st, .slice aa acc.length ac] isA_25 sz_25 rfl .here rfl) ?_
              refine Ops.cl (α := AutoR ls) (v := fun r => .agg [.slice r.1.1.1 r.1.2.1.length r.1.1.2, .int .i64 st, .slice r.1.2.2.1 acc.length r.1.2.2.2].toArray) (B := fun r => [rd (fun w => RoLL w r.1.1.1 r.1.2.1 ∧ RoL w r.1.2.2.1 eBool acc)]) en_15 rfl (fun w hs => autocopy_c _ _ ls st _ _ acc w (hL.later hs.below) (hA.later hs.below) (by omega) (fun l hl => Nat.le_trans (h20 l hl) (by decide)) (by omega)) ?_
              rintro ⟨⟨⟨xa64, xc65⟩, lz66, ⟨ya67, yc68⟩⟩, hz69⟩
              refine Ops.cl (α := (Option Addr × Nat) × (Option Addr × Nat)) (v := fun x => .tuple #[.agg #[.slice x.1.1 (exN (machineP (ls.map (fun l : NL => l.2)) st acc)).ns.length x.1.2, .int .i64 (exN (machineP (ls.map (fun l : NL => l.2)) st acc)).inp, .slice x.2.1 (exN (machineP (ls.map (fun l : NL => l.2)) st acc)).ss.length x.2.2], .int .i64 (errN (machineP (ls.map (fun l : NL => l.2)) st acc))]) (B := fun x => [row x.1.1 x.1.2 116 8 (exN (machineP (ls.map (fun l : NL => l.2)) st acc)).ns.length ((exN (machineP (ls.map (fun l : NL => l.2)) st acc)).ns.flatMap ePrm), row x.2.1 x.2.2 126 4 (exN (machineP (ls.map (fun l : NL => l.2)) st acc)).ss.length ((exN (machineP (ls.map (fun l : NL => l.2)) st acc)).ss.flatMap eSyn)]) en_14 rfl (fun w hs => retR_any (machine_z hz69 (hs.read .here).1 (hs.read .here).2)) ?_
              rintro ⟨⟨p70, pc71⟩, ⟨q72, qc73⟩⟩
              refine Ops.q (q_mv rfl) ?_
              refine Ops.q (q_ext rfl rfl) ?_
              refine Ops.q (q_ext rfl rfl) ?_
              refine Ops.alc [.slice none 0 0, .int .i64 0, .slice none 0 0] zc_32 ?_
              intro b74
              refine Ops.stB [.slice p70 ((exN (machineP (ls.map (fun l : NL => l.2)) st acc)).ns.length) pc71, .int .i64 ((exN (machineP (ls.map (fun l : NL => l.2)) st acc)).inp), .slice q72 ((exN (machineP (ls.map (fun l : NL => l.2)) st acc)).ss.length) qc73] [.slice p70 ((exN (machineP (ls.map (fun l : NL => l.2)) st acc)).ns.length) pc71, .int .i64 ((exN (machineP (ls.map (fun l : NL => l.2)) st acc)).inp), .slice q72 ((exN (machineP (ls.map (fun l : NL => l.2)) st acc)).ss.length) qc73] sz_32 rfl rfl rfl (one rfl) .here rfl rfl ?_
              refine Ops.q (q_asg rfl) ?_
              refine Ops.to rfl ?_
              refine Cd.seq ?_
              refine Cd.region ?_
              refine Ops.q (q_ldBN [.slice na ls.length nc, .int .i64 st, .slice aa acc.length ac] isA_25 sz_25 rfl (.there (.there (.there (.there .here)))) rfl) ?_
              refine Ops.cl (α := (Option Addr × Nat) × (Option Addr × Nat)) (v := fun x => .tuple #[.agg #[.slice x.1.1 (exN (machineP (ls.map (fun l : NL => l.2)) st acc)).ns.length x.1.2, .int .i64 (exN (machineP (ls.map (fun l : NL => l.2)) st acc)).inp, .slice x.2.1 (exN (machineP (ls.map (fun l : NL => l.2)) st acc)).ss.length x.2.2], .int .i64 (errN (machineP (ls.map (fun l : NL => l.2)) st acc))]) (B := fun x => [row x.1.1 x.1.2 116 8 (exN (machineP (ls.map (fun l : NL => l.2)) st acc)).ns.length ((exN (machineP (ls.map (fun l : NL => l.2)) st acc)).ns.flatMap ePrm), row x.2.1 x.2.2 126 4 (exN (machineP (ls.map (fun l : NL => l.2)) st acc)).ss.length ((exN (machineP (ls.map (fun l : NL => l.2)) st acc)).ss.flatMap eSyn)]) en_16 rfl (fun w hs => retR_any (rmachine_c _ _ ls st _ _ acc w (hL.later hs.below) (hA.later hs.below))) ?_
              rintro ⟨⟨p75, pc76⟩, ⟨q77, qc78⟩⟩
              refine Ops.q (q_mv rfl) ?_
              refine Ops.q (q_ext rfl rfl) ?_
              refine Ops.q (q_ext rfl rfl) ?_
              refine Ops.alc [.slice none 0 0, .int .i64 0, .slice none 0 0] zc_32 ?_
              intro b79
              refine Ops.stB [.slice p75 ((exN (machineP (ls.map (fun l : NL => l.2)) st acc)).ns.length) pc76, .int .i64 ((exN (machineP (ls.map (fun l : NL => l.2)) st acc)).inp), .slice q77 ((exN (machineP (ls.map (fun l : NL => l.2)) st acc)).ss.length) qc78] [.slice p75 ((exN (machineP (ls.map (fun l : NL => l.2)) st acc)).ns.length) pc76, .int .i64 ((exN (machineP (ls.map (fun l : NL => l.2)) st acc)).inp), .slice q77 ((exN (machineP (ls.map (fun l : NL => l.2)) st acc)).ss.length) qc78] sz_32 rfl rfl rfl (one rfl) .here rfl rfl ?_
              refine Ops.q (q_asg rfl) ?_
              refine Ops.to rfl ?_
              refine Cd.seq ?_
              refine Cd.seq ?_
              refine Cd.region ?_
              refine Ops.q (q_ldBN [.slice p70 ((exN (machineP (ls.map (fun l : NL => l.2)) st acc)).ns.length) pc71, .int .i64 ((exN (machineP (ls.map (fun l : NL => l.2)) st acc)).inp), .slice q72 ((exN (machineP (ls.map (fun l : NL => l.2)) st acc)).ss.length) qc73] isA_32 sz_32 rfl (.there (.there (.there .here))) rfl) ?_
              refine Ops.q (q_ldBN [.slice p75 ((exN (machineP (ls.map (fun l : NL => l.2)) st acc)).ns.length) pc76, .int .i64 ((exN (machineP (ls.map (fun l : NL => l.2)) st acc)).inp), .slice q77 ((exN (machineP (ls.map (fun l : NL => l.2)) st acc)).ss.length) qc78] isA_32 sz_32 rfl .here rfl) ?_
              refine Ops.cp en_17 rfl (fun w hs => dT (nets_c _ _ _ _ _ _ _ _ (exN (machineP (ls.map (fun l : NL => l.2)) st acc)).ns (exN (machineP (ls.map (fun l : NL => l.2)) st acc)).ns ((exN (machineP (ls.map (fun l : NL => l.2)) st acc)).inp) ((exN (machineP (ls.map (fun l : NL => l.2)) st acc)).inp) (exN (machineP (ls.map (fun l : NL => l.2)) st acc)).ss (exN (machineP (ls.map (fun l : NL => l.2)) st acc)).ss w (hs.ownRo (.there (.there (.there (.there .here))))) (hs.ownRo (.there .here)) (hs.ownRo (.there (.there (.there (.there (.there .here)))))) (hs.ownRo (.there (.there .here))) (rowmax hs (.there (.there (.there (.there .here))))) (rowmax hs (.there (.there (.there (.there (.there .here))))))) ⟨rfl, rfl, rfl⟩) ?_
              refine Ops.q (q_not rfl) ?_
              refine Ops.q (q_mv rfl) ?_
              refine Ops.q (q_mv rfl) ?_
              refine Ops.q (q_mv rfl) ?_
              refine Ops.q (q_cmp rfl rfl (c_nne rfl)) ?_
              refine Ops.q (q_pickF rfl rfl) ?_
              refine Ops.to rfl ?_
              refine Cd.cond_f rfl ?_
              refine Cd.skipTo rfl ?_
              refine Cd.seq ?_
              refine Cd.region ?_
              refine Ops.q (q_ldBN [.slice na ls.length nc, .int .i64 st, .slice aa acc.length ac] isA_25 sz_25 rfl (.there (.there (.there (.there (.there (.there (.there .here))))))) rfl) ?_
              refine Ops.cl (α := AutoR ls) (v := fun r => .agg [.slice r.1.1.1 r.1.2.1.length r.1.1.2, .int .i64 st, .slice r.1.2.2.1 acc.length r.1.2.2.2].toArray) (B := fun r => [rd (fun w => RoLL w r.1.1.1 r.1.2.1 ∧ RoL w r.1.2.2.1 eBool acc)]) en_15 rfl (fun w hs => autocopy_c _ _ ls st _ _ acc w (hL.later hs.below) (hA.later hs.below) (by omega) (fun l hl => Nat.le_trans (h20 l hl) (by decide)) (by omega)) ?_
              rintro ⟨⟨⟨xa80, xc81⟩, lz82, ⟨ya83, yc84⟩⟩, hz85⟩
              refine Ops.q (q_mv rfl) ?_
              refine Ops.cl (α := Option Addr × Nat) (v := fun p => .tuple #[.slice p.1 (exL (wordP (ls.map (fun l : NL => l.2)) st acc.length ws)).length p.2, .int .i64 (errN (wordP (ls.map (fun l : NL => l.2)) st acc.length ws))]) (B := fun p => [row p.1 p.2 88 2 ((exL (wordP (ls.map (fun l : NL => l.2)) st acc.length ws)).length) ((exL (wordP (ls.map (fun l : NL => l.2)) st acc.length ws)).flatMap eEvt)]) en_18 rfl (fun w hs => retE_any (word_z hz85 (hs.read .here).1 (hW.later hs.below))) ?_
              rintro ⟨la86, lc87⟩
              refine Ops.q (q_mv rfl) ?_
              refine Ops.q (q_ext rfl rfl) ?_
              refine Ops.q (q_ext rfl rfl) ?_
              refine Ops.q (q_asg rfl) ?_
              refine Ops.q (q_asg rfl) ?_
              refine Ops.to rfl ?_
              refine Cd.seq ?_
              refine Cd.region ?_
              refine Ops.q (q_ldBN [.slice na ls.length nc, .int .i64 st, .slice aa acc.length ac] isA_25 sz_25 rfl (.there (.there (.there (.there (.there (.there (.there (.there (.there .here))))))))) rfl) ?_
              refine Ops.q (q_mv rfl) ?_
              refine Ops.cl (α := Option Addr × Nat) (v := fun p => .tuple #[.slice p.1 (exL (wordP (ls.map (fun l : NL => l.2)) st acc.length ws)).length p.2, .int .i64 (errN (wordP (ls.map (fun l : NL => l.2)) st acc.length ws))]) (B := fun p => [row p.1 p.2 88 2 ((exL (wordP (ls.map (fun l : NL => l.2)) st acc.length ws)).length) ((exL (wordP (ls.map (fun l : NL => l.2)) st acc.length ws)).flatMap eEvt)]) en_19 rfl (fun w hs => retE_any (rword_c _ _ ls st _ acc.length _ _ _ ws w (hL.later hs.below) (hW.later hs.below))) ?_
              rintro ⟨la88, lc89⟩
              refine Ops.q (q_mv rfl) ?_
              refine Ops.q (q_ext rfl rfl) ?_
              refine Ops.q (q_ext rfl rfl) ?_
              refine Ops.q (q_asg rfl) ?_
              refine Ops.q (q_asg rfl) ?_
              refine Ops.to rfl ?_
              refine Cd.seq ?_
              refine Cd.seq ?_
              refine Cd.region ?_
              refine Ops.q (q_mv rfl) ?_
              refine Ops.q (q_mv rfl) ?_
              refine Ops.cp en_20 rfl (fun w hs => dT (events_c _ _ _ _ (exL (wordP (ls.map (fun l : NL => l.2)) st acc.length ws)) (exL (wordP (ls.map (fun l : NL => l.2)) st acc.length ws)) w (hs.ownRo (.there .here)) (hs.ownRo .here) (rowmax hs (.there .here))) rfl) ?_
              refine Ops.q (q_not rfl) ?_
              refine Ops.q (q_mv rfl) ?_
              refine Ops.q (q_mv rfl) ?_
              refine Ops.q (q_mv rfl) ?_
              refine Ops.q (q_cmp rfl rfl (c_nne rfl)) ?_
              refine Ops.q (q_pickF rfl rfl) ?_
              refine Ops.to rfl ?_
              refine Cd.cond_f rfl ?_
              refine Cd.skipTo rfl ?_
              refine Cd.seq ?_
              refine Cd.region ?_
              refine Ops.q (q_ldBN [.slice na ls.length nc, .int .i64 st, .slice aa acc.length ac] isA_25 sz_25 rfl (.there (.there (.there (.there (.there (.there (.there (.there (.there (.there .here)))))))))) rfl) ?_
              refine Ops.cl (α := AutoR ls) (v := fun r => .agg [.slice r.1.1.1 r.1.2.1.length r.1.1.2, .int .i64 st, .slice r.1.2.2.1 acc.length r.1.2.2.2].toArray) (B := fun r => [rd (fun w => RoLL w r.1.1.1 r.1.2.1 ∧ RoL w r.1.2.2.1 eBool acc)]) en_15 rfl (fun w hs => autocopy_c _ _ ls st _ _ acc w (hL.later hs.below) (hA.later hs.below) (by omega) (fun l hl => Nat.le_trans (h20 l hl) (by decide)) (by omega)) ?_
              rintro ⟨⟨⟨xa90, xc91⟩, lz92, ⟨ya93, yc94⟩⟩, hz95⟩
              refine Ops.q (q_mv rfl) ?_
              refine Ops.cl (α := Option Addr × Nat) (v := fun p => .tuple #[.slice p.1 (exL (statesP (ls.map (fun l : NL => l.2)) st acc.length evs)).length p.2, .int .i64 (errN (statesP (ls.map (fun l : NL => l.2)) st acc.length evs))]) (B := fun p => [row p.1 p.2 3 1 ((exL (statesP (ls.map (fun l : NL => l.2)) st acc.length evs)).length) ((exL (statesP (ls.map (fun l : NL => l.2)) st acc.length evs)).flatMap eInt)]) en_21 rfl (fun w hs => retL_any (states_z hz95 (hs.read .here).1 (hE.later hs.below) (by omega))) ?_
              rintro ⟨la96, lc97⟩
              refine Ops.q (q_mv rfl) ?_
              refine Ops.q (q_ext rfl rfl) ?_
              refine Ops.q (q_ext rfl rfl) ?_
              refine Ops.q (q_asg rfl) ?_
              refine Ops.q (q_asg rfl) ?_
              refine Ops.to rfl ?_
              refine Cd.seq ?_
              refine Cd.region ?_
              refine Ops.q (q_ldBN [.slice na ls.length nc, .int .i64 st, .slice aa acc.length ac] isA_25 sz_25 rfl (.there (.there (.there (.there (.there (.there (.there (.there (.there (.there (.there (.there .here)))))))))))) rfl) ?_
              refine Ops.q (q_mv rfl) ?_
              refine Ops.cl (α := Option Addr × Nat) (v := fun p => .tuple #[.slice p.1 (exL (statesP (ls.map (fun l : NL => l.2)) st acc.length evs)).length p.2, .int .i64 (errN (statesP (ls.map (fun l : NL => l.2)) st acc.length evs))]) (B := fun p => [row p.1 p.2 3 1 ((exL (statesP (ls.map (fun l : NL => l.2)) st acc.length evs)).length) ((exL (statesP (ls.map (fun l : NL => l.2)) st acc.length evs)).flatMap eInt)]) en_22 rfl (fun w hs => retL_any (rstates_c _ _ ls st _ acc.length _ _ _ evs w (hL.later hs.below) (hE.later hs.below) (by omega))) ?_
              rintro ⟨la98, lc99⟩
              refine Ops.q (q_mv rfl) ?_
              refine Ops.q (q_ext rfl rfl) ?_
              refine Ops.q (q_ext rfl rfl) ?_
              refine Ops.q (q_asg rfl) ?_
              refine Ops.q (q_asg rfl) ?_
              refine Ops.to rfl ?_
              refine Cd.seq ?_
              refine Cd.seq ?_
              refine Cd.region ?_
              refine Ops.q (q_mv rfl) ?_
              refine Ops.q (q_mv rfl) ?_
              refine Ops.cp en_23 rfl (fun w hs => dT (numbers_c _ _ _ _ (exL (statesP (ls.map (fun l : NL => l.2)) st acc.length evs)) (exL (statesP (ls.map (fun l : NL => l.2)) st acc.length evs)) w (hs.ownRo (.there .here)) (hs.ownRo .here) (rowmax hs (.there .here))) rfl) ?_
              refine Ops.q (q_not rfl) ?_
              refine Ops.q (q_mv rfl) ?_
              refine Ops.q (q_mv rfl) ?_
              refine Ops.q (q_mv rfl) ?_
              refine Ops.q (q_cmp rfl rfl (c_nne rfl)) ?_
              refine Ops.q (q_pickF rfl rfl) ?_
              refine Ops.to rfl ?_
              refine Cd.cond_f rfl ?_
              refine Cd.skipTo rfl ?_
              refine Cd.seq ?_
              refine Cd.region ?_
              refine Ops.q (q_mv rfl) ?_
              refine Ops.cl (α := (Option Addr × Nat) × (Option Addr × Nat)) (v := fun x => .tuple #[.agg #[.slice x.1.1 (exN (sortP n)).ns.length x.1.2, .int .i64 (exN (sortP n)).inp, .slice x.2.1 (exN (sortP n)).ss.length x.2.2], .int .i64 (errN (sortP n))]) (B := fun x => [row x.1.1 x.1.2 116 8 (exN (sortP n)).ns.length ((exN (sortP n)).ns.flatMap ePrm), row x.2.1 x.2.2 126 4 (exN (sortP n)).ss.length ((exN (sortP n)).ss.flatMap eSyn)]) en_24 rfl (fun w hs => retR_any (sort_c n w)) ?_
              rintro ⟨⟨p100, pc101⟩, ⟨q102, qc103⟩⟩
              refine Ops.q (q_mv rfl) ?_
              refine Ops.q (q_ext rfl rfl) ?_
              refine Ops.q (q_ext rfl rfl) ?_
              refine Ops.stB [.slice p100 ((exN (sortP n)).ns.length) pc101, .int .i64 ((exN (sortP n)).inp), .slice q102 ((exN (sortP n)).ss.length) qc103] [.slice p100 ((exN (sortP n)).ns.length) pc101, .int .i64 ((exN (sortP n)).inp), .slice q102 ((exN (sortP n)).ss.length) qc103] sz_32 rfl rfl rfl (one rfl) (.there (.there (.there (.there (.there (.there (.there (.there (.there (.there (.there .here))))))))))) rfl rfl ?_
              refine Ops.q (q_asg rfl) ?_
              refine Ops.to rfl ?_
              refine Cd.seq ?_
              refine Cd.region ?_
              refine Ops.q (q_mv rfl) ?_
              refine Ops.cl (α := (Option Addr × Nat) × (Option Addr × Nat)) (v := fun x => .tuple #[.agg #[.slice x.1.1 (exN (sortP n)).ns.length x.1.2, .int .i64 (exN (sortP n)).inp, .slice x.2.1 (exN (sortP n)).ss.length x.2.2], .int .i64 (errN (sortP n))]) (B := fun x => [row x.1.1 x.1.2 116 8 (exN (sortP n)).ns.length ((exN (sortP n)).ns.flatMap ePrm), row x.2.1 x.2.2 126 4 (exN (sortP n)).ss.length ((exN (sortP n)).ss.flatMap eSyn)]) en_25 rfl (fun w hs => retR_any (rsort_c n w)) ?_
              rintro ⟨⟨p104, pc105⟩, ⟨q106, qc107⟩⟩
              refine Ops.q (q_mv rfl) ?_
              refine Ops.q (q_ext rfl rfl) ?_
              refine Ops.q (q_ext rfl rfl) ?_
              refine Ops.stB [.slice p104 ((exN (sortP n)).ns.length) pc105, .int .i64 ((exN (sortP n)).inp), .slice q106 ((exN (sortP n)).ss.length) qc107] [.slice p104 ((exN (sortP n)).ns.length) pc105, .int .i64 ((exN (sortP n)).inp), .slice q106 ((exN (sortP n)).ss.length) qc107] sz_32 rfl rfl rfl (one rfl) (.there (.there (.there (.there (.there (.there (.there (.there (.there (.there .here)))))))))) rfl rfl ?_
              refine Ops.q (q_asg rfl) ?_
              refine Ops.to rfl ?_
              refine Cd.seq ?_
              refine Cd.region ?_
              refine Ops.q (q_ldBN [.slice p100 ((exN (sortP n)).ns.length) pc101, .int .i64 ((exN (sortP n)).inp), .slice q102 ((exN (sortP n)).ss.length) qc103] isA_32 sz_32 rfl (.there (.there (.there (.there (.there (.there (.there (.there (.there (.there (.there (.there (.there .here))))))))))))) rfl) ?_
              refine Ops.q (q_ldBN [.slice p104 ((exN (sortP n)).ns.length) pc105, .int .i64 ((exN (sortP n)).inp), .slice q106 ((exN (sortP n)).ss.length) qc107] isA_32 sz_32 rfl (.there (.there (.there (.there (.there (.there (.there (.there (.there (.there .here)))))))))) rfl) ?_
              refine Ops.cp en_17 rfl (fun w hs => dT (nets_c _ _ _ _ _ _ _ _ (exN (sortP n)).ns (exN (sortP n)).ns ((exN (sortP n)).inp) ((exN (sortP n)).inp) (exN (sortP n)).ss (exN (sortP n)).ss w (hs.ownRo (.there (.there .here))) (hs.ownRo .here) (hs.ownRo (.there (.there (.there .here)))) (hs.ownRo (.there .here)) (rowmax hs (.there (.there .here))) (rowmax hs (.there (.there (.there .here))))) ⟨rfl, rfl, rfl⟩) ?_
              refine Ops.q (q_mv rfl) ?_
              refine Ops.q (q_mv rfl) ?_
              refine Ops.q (q_mv rfl) ?_
              refine Ops.q (q_cmp rfl rfl (c_eq rfl)) ?_
              refine Ops.q (q_pickT rfl rfl) ?_
              refine Ops.q (q_mv rfl) ?_
              refine Ops.cp en_13 rfl (fun w hs => works_c w) ?_
              refine Ops.q (q_pickT rfl rfl) ?_
              refine Ops.q (q_asg rfl) ?_
              refine Ops.to rfl ?_
              refine Cd.rt (fn := Try.f3) [.bool true] (by with_reducible repeat (first | exact rq_here | apply rq_then | apply rq_block)) rfl ⟨rfl, trivial⟩ ?_
              intro w' hs'
              exact ⟨rfl, hs'.none⟩
end Go.Proofs.Ytilcdghliigngaa
